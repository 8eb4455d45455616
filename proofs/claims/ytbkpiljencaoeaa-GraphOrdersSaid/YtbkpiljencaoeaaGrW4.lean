/- GraphOrders: the law's function. -/
import Derived.Test.YtbkpiljencaoeaaGrR5
import Derived.Test.YtbkpiljencaoeaaGrCode
set_option linter.unusedSimpArgs false
set_option linter.unusedVariables false
set_option linter.unnecessarySimpa false
namespace Go.Proofs.Ytbkpiljencaoeaa
open Go Go.Sx Go.Gr
set_option maxRecDepth 100000
theorem cellsD_one (l : List Ed) : ∀ u ∈ cellsD l, u.oneCell' = true := by
 intro u hu
 simp only [cellsD, edV, List.mem_flatMap, List.mem_cons, List.not_mem_nil, or_false] at hu
 obtain ⟨x, _, rfl | rfl⟩ := hu <;> rfl
theorem law4 (A : Option Addr) (c : Nat) (n : Int) (l : List Ed) (w : World) (hA : RowAt w A (cellsD l)) (hb : l.length * 16 ≤ 140737488355328) :
  CallsV Try.prog 4 [.int .i64 n, .slice A l.length c] w fun v w' => v = .bool true ∧ Fresh w w' := by
 refine calls_go (keep := K4) (nt := 176) (svs := [.val (.int .i64 n), .val (.slice A l.length c)]) Try.func4 x4 n4 (by simp) (by simp [IsL, Is]) fun R hR => ?_
 have yes : ∀ s, denAll s.H s.F [4] = some [.bool true] → ∀ E : Env, E.marks = [] → Over ⟨w, w.heap.size, [], 176, []⟩ E → RetG (cxOf Try.prog Try.f4 K4 T4 R) E s := fun s h1 E hm ho => ret_rule (vs := [.bool true]) r4 hm h1 fun W hW => hR _ _ ⟨rfl, (ho.heap hW).fresh'⟩
 have fail : ¬ okG n l → ∀ (E : Env) (A2 : Option Addr) (c2 : Nat), E.nt = 176 → E.marks = [] → E.stolen = [] → RowE E A2 (cellsD l) → RowE E A (cellsD l) → Over ⟨w, w.heap.size, [], 176, []⟩ E → G (cxOf Try.prog Try.f4 K4 T4 R) E [.ops [⟨some 42, none, .call 10 [.tmp 40, .tmp 41]⟩, ⟨some 39, none, .k (.mov (.tmp 42))⟩, ⟨some 43, none, .k (.ext (.tmp 39) 0)⟩, ⟨some 44, none, .k (.ext (.tmp 39) 1)⟩, ⟨some 6, none, .k (.mov (.tmp 43))⟩, ⟨some 7, none, .k (.mov (.tmp 44))⟩], .code (.ref 26)] { F := [(41, .val (.slice A2 l.length c2)), (40, .val (.int .i64 n)), (0, .val (.int .i64 n)), (1, .val (.slice A l.length c)), (5, .val (.slice A2 l.length c2))], H := [] } := by
  intro hno E A2 c2 hnt hmk hst hO hL ov
  obtain ⟨b, N, st, nt, mk⟩ := E
  simp only at hnt hmk hst
  subst hnt; subst hmk; subst hst
  refine call_val (vs := [.int .i64 n, .slice A2 l.length c2]) rfl (R := fun v => v = .tuple #[.slice none 0 0, .int .i64 2]) (fun W hW => (order10 A2 c2 n l W (hO.at hW)).mono ?_) fun v hv => ⟨.tup [.val (.slice none 0 0), .val (.int .i64 2)], by rw [hv]; simp [Is, IsL], ?_⟩
  ·rintro v w' ⟨⟨_, h⟩ | ⟨h, _⟩ | ⟨h, _⟩, hf⟩
   ·exact ⟨h, hf⟩
   ·exact absurd h hno
   ·exact absurd h hno
  dsimp only [zq8t]
  (refine Y_go 600 ?_; dsimp only [Y_k, zq4u, zq8o, zq6n, Nat.reduceBEq, zq6k, YK, zq8t, zq5j, zq2f, nth, zq2e, zq6l, zq9i, normF, zq6m, zq86, zq87, zq9y, t4n26, T4n26, zq9r, zq9q, zq9j])
  refine call_val (vs := [.int .i64 n, .slice A2 l.length c2]) rfl (R := fun v => v = .tuple #[.slice none 0 0, .int .i64 2]) (fun W hW => (cycle11 A2 c2 n l W (hO.at hW)).mono ?_) fun v hv => ⟨.tup [.val (.slice none 0 0), .val (.int .i64 2)], by rw [hv]; simp [Is, IsL], ?_⟩
  ·rintro v w' (⟨_, h1, h2⟩ | ⟨h, _⟩)
   ·exact ⟨h1, h2⟩
   ·exact absurd h hno
  dsimp only [zq8t]
  (refine Y_go 600 ?_; dsimp only [Y_k, zq4u, zq8o, zq6n, Nat.reduceBEq, zq6k, YK, zq8t, zq5j, zq2f, nth, zq2e, zq6l, zq9i, normF, zq6m, zq86, zq87, zq9y, t4n25, T4n25, zq9r, zq9q, zq9j])
  refine call_val (vs := [.int .i64 n, .slice A2 l.length c2]) rfl (R := fun v => v = .tuple #[.slice none 0 0, .int .i64 2]) (fun W hW => (behind12 A2 c2 n l W (hO.at hW)).mono ?_) fun v hv => ⟨.tup [.val (.slice none 0 0), .val (.int .i64 2)], by rw [hv]; simp [Is, IsL], ?_⟩
  ·rintro v w' ⟨⟨_, h⟩ | ⟨h, _⟩, hf⟩
   ·exact ⟨h, hf⟩
   ·exact absurd h hno
  dsimp only [zq8t]
  (refine Y_go 600 ?_; dsimp only [Y_k, zq4u, zq8o, zq6n, Nat.reduceBEq, zq6k, YK, zq8t, zq5j, zq2f, nth, zq2e, zq6l, zq9i, normF, zq6m, zq86, zq87, zq9y, t4n24, T4n24, zq9r, zq9q, zq9j])
  refine call_val (vs := [.int .i64 n, .slice A l.length c]) rfl (R := fun v => v = .bool false) (fun W hW => (may13 A c n l W (hL.at hW)).mono ?_) fun v hv => ⟨.bf, by rw [hv]; simp [Is], ?_⟩
  ·rintro v w' ⟨h1, h2⟩
   rw [decide_eq_false hno] at h1
   exact ⟨h1, h2⟩
  dsimp only [zq8t]
  (refine Y_go 600 ?_; dsimp only [Y_k, zq4u, zq8o, zq6n, Nat.reduceBEq, zq6k, YK, zq8t, zq9i, normF, zq6l, zq6m, zq86, zq8a, zq87, zq9y, t4n23, T4n23, zq9r, zq9q, zq53, zq0n, zq89, zq9s, zq6f, YC, t4n1, T4n1, zq50, zq8p, zq6q, zq04, zq92, zq9b, zq0i, zq9c, Y_gk, zq6d, YR, zq69, zq4v, zq6p, zq0b, zq55, zq0r, zq9x, YS, zq6b, zq0c])
  exact ⟨fun _ => ⟨fun _ => ⟨fun _ => ⟨fun _ => ⟨fun _ => yes _ rfl _ rfl ov, fun h => absurd h (by decide)⟩, fun h => absurd h (by decide)⟩, fun h => absurd h (by decide)⟩, fun h => absurd h (by decide)⟩, fun h => absurd h (by decide)⟩
 have good : ∀ m : Nat, (m : Int) = n → okG n l → ∀ (E : Env) (A2 : Option Addr) (c2 : Nat), E.nt = 176 → E.marks = [] → E.stolen = [] → RowE E A2 (cellsD l) → RowE E A (cellsD l) → Over ⟨w, w.heap.size, [], 176, []⟩ E → G (cxOf Try.prog Try.f4 K4 T4 R) E [.ops [⟨some 42, none, .call 10 [.tmp 40, .tmp 41]⟩, ⟨some 39, none, .k (.mov (.tmp 42))⟩, ⟨some 43, none, .k (.ext (.tmp 39) 0)⟩, ⟨some 44, none, .k (.ext (.tmp 39) 1)⟩, ⟨some 6, none, .k (.mov (.tmp 43))⟩, ⟨some 7, none, .k (.mov (.tmp 44))⟩], .code (.ref 26)] { F := [(41, .val (.slice A2 l.length c2)), (40, .val (.int .i64 n)), (0, .val (.int .i64 n)), (1, .val (.slice A l.length c)), (5, .val (.slice A2 l.length c2))], H := [] } := by
  intro m hm hok E A2 c2 hnt hmk hst hO hL ov
  obtain ⟨b, N, st, nt, mk⟩ := E
  simp only at hnt hmk hst
  subst hnt; subst hmk; subst hst; subst hm
  have hm5 : m ≤ 500 := by have := hok.2.1; omega
  obtain ⟨res, hres⟩ : ∃ res : List Int × Int, res = if (ordL l m).length < m then ([], 250) else (ordL l m, 0) := ⟨_, rfl⟩
  refine call_base (vs := [.int .i64 m, .slice A2 l.length c2]) rfl (R := fun W v w' => ∃ X xc, v = .tuple #[.slice X res.1.length xc, .int .i64 res.2] ∧ RowAt w' X (isV res.1) ∧ Fresh W w') (fun W hW => (order10 A2 c2 m l W (hO.at hW)).mono ?_) (fun _ _ _ ⟨_, _, _, _, h⟩ => h) fun W v W1 hW ⟨X, xc, hv, hX, _⟩ ov1 => ?_
  ·rintro v w' ⟨⟨h, _⟩ | ⟨_, h, hv⟩ | ⟨_, h, B, bc, hv, ho⟩, hf⟩
   ·exact absurd hok h
   ·rw [Int.toNat_natCast] at h
    rw [hres, if_pos h]
    exact ⟨none, 0, hv, fun j u hj => (by cases hj), hf⟩
   ·rw [Int.toNat_natCast] at h hv ho
    rw [hres, if_neg h]
    exact ⟨B, bc, hv, RowAt.of_own ho rfl, hf⟩
  refine ⟨.tup [.val (.slice X res.1.length xc), .val (.int .i64 res.2)], by rw [hv]; simp [Is, IsL], ?_⟩
  replace hX : RowE ⟨W1, W1.heap.size, [], 176, []⟩ X (isV res.1) := hX.toE (st := []) (by simp) 176 []
  replace hO := hO.over ov1
  replace hL := hL.over ov1
  replace ov := ov.trans ov1
  dsimp only [zq8t]
  (refine Y_go 600 ?_; dsimp only [Y_k, zq4u, zq8o, zq6n, Nat.reduceBEq, zq6k, YK, zq8t, zq5j, zq2f, nth, zq2e, zq6l, zq9i, normF, zq6m, zq86, zq87, zq9y, t4n26, T4n26, zq9r, zq9q, zq9j])
  refine call_base (vs := [.int .i64 m, .slice A2 l.length c2]) rfl (R := fun W v w' => ∃ X xc, v = .tuple #[.slice X (cycL l m).length xc, .int .i64 0] ∧ RowAt w' X (isV (cycL l m)) ∧ Fresh W w') (fun W hW => (cycle11 A2 c2 m l W (hO.at hW)).mono ?_) (fun _ _ _ ⟨_, _, _, _, h⟩ => h) fun W v W2 hW ⟨Y, yc, hv, hY, _⟩ ov1 => ?_
  ·rintro v w' (⟨h, _⟩ | ⟨_, B, bc, hv, ho, hf⟩)
   ·exact absurd hok h
   ·rw [Int.toNat_natCast] at hv ho
    exact ⟨B, bc, hv, RowAt.of_own ho rfl, hf⟩
  refine ⟨.tup [.val (.slice Y (cycL l m).length yc), .val (.int .i64 0)], by rw [hv]; simp [Is, IsL], ?_⟩
  replace hY : RowE ⟨W2, W2.heap.size, [], 176, []⟩ Y (isV (cycL l m)) := hY.toE (st := []) (by simp) 176 []
  replace hX := hX.over ov1
  replace hO := hO.over ov1
  replace hL := hL.over ov1
  replace ov := ov.trans ov1
  dsimp only [zq8t]
  (refine Y_go 600 ?_; dsimp only [Y_k, zq4u, zq8o, zq6n, Nat.reduceBEq, zq6k, YK, zq8t, zq5j, zq2f, nth, zq2e, zq6l, zq9i, normF, zq6m, zq86, zq87, zq9y, t4n25, T4n25, zq9r, zq9q, zq9j])
  refine call_base (vs := [.int .i64 m, .slice A2 l.length c2]) rfl (R := fun W v w' => ∃ B bc gs, v = .tuple #[.slice B m bc, .int .i64 0] ∧ TabAt w' B gs (bhB l) m m ∧ Fresh W w') (fun W hW => (behind12 A2 c2 m l W (hO.at hW)).mono ?_) (fun _ _ _ ⟨_, _, _, _, _, h⟩ => h) fun W v W3 hW ⟨B, bc, gs, hv, hB, _⟩ ov1 => ?_
  ·rintro v w' ⟨⟨h, _⟩ | ⟨_, B, bc, gs, hv, ht⟩, hf⟩
   ·exact absurd hok h
   ·rw [Int.toNat_natCast] at hv ht
    exact ⟨B, bc, gs, hv, ht, hf⟩
  refine ⟨.tup [.val (.slice B m bc), .val (.int .i64 0)], by rw [hv]; simp [Is, IsL], ?_⟩
  obtain ⟨hBT, hBR⟩ := tabE hB 176 []
  replace hX := hX.over ov1
  replace hY := hY.over ov1
  replace hO := hO.over ov1
  replace hL := hL.over ov1
  replace ov := ov.trans ov1
  clear hB
  dsimp only [zq8t]
  (refine Y_go 600 ?_; dsimp only [Y_k, zq4u, zq8o, zq6n, Nat.reduceBEq, zq6k, YK, zq8t, zq5j, zq2f, nth, zq2e, zq6l, zq9i, normF, zq6m, zq86, zq87, zq9y, t4n24, T4n24, zq9r, zq9q, zq9j])
  refine call_val (vs := [.int .i64 m, .slice A l.length c]) rfl (R := fun v => v = .bool true) (fun W hW => (may13 A c m l W (hL.at hW)).mono ?_) fun v hv => ⟨.bt, by rw [hv]; simp [Is], ?_⟩
  ·rintro v w' ⟨h1, h2⟩
   rw [decide_eq_true hok] at h1
   exact ⟨h1, h2⟩
  dsimp only [zq8t]
  (refine Y_go 600 ?_; dsimp only [Y_k, zq4u, zq8o, zq6n, Nat.reduceBEq, zq6k, YK, zq8t, zq9i, normF, zq6l, zq6m, zq86, zq89, zq87, zq9y, t4n23, T4n23, zq9r, zq9q, zq53, zq0m, zq8a, zq9s, zq6g, YC, zq9p, t4n22, T4n22, zq9j])
  refine call_base (vs := [.int .i64 m, .slice A l.length c]) rfl (R := fun W v w' => ∃ X xc, v = .tuple #[.slice X res.1.length xc, .int .i64 res.2] ∧ RowAt w' X (isV res.1) ∧ Fresh W w') (fun W hW => (order14 A c m l W (hL.at hW) hok).mono ?_) (fun _ _ _ ⟨_, _, _, _, h⟩ => h) fun W v W4 hW ⟨X2, xc2, hv, hX2, _⟩ ov1 => ?_
  ·rintro v w' ⟨⟨h, hv⟩ | ⟨h, B, bc, hv, ho⟩, hf⟩
   ·rw [hres, if_pos h]
    exact ⟨none, 0, hv, fun j u hj => (by cases hj), hf⟩
   ·rw [hres, if_neg h]
    exact ⟨B, bc, hv, RowAt.of_own ho rfl, hf⟩
  refine ⟨.tup [.val (.slice X2 res.1.length xc2), .val (.int .i64 res.2)], by rw [hv]; simp [Is, IsL], ?_⟩
  replace hX2 : RowE ⟨W4, W4.heap.size, [], 176, []⟩ X2 (isV res.1) := hX2.toE (st := []) (by simp) 176 []
  replace hX := hX.over ov1
  replace hY := hY.over ov1
  replace hO := hO.over ov1
  replace hL := hL.over ov1
  replace hBT := hBT.over ov1
  replace hBR := fun a ha => (hBR a ha).over ov1
  replace ov := ov.trans ov1
  dsimp only [zq8t]
  (refine Y_go 600 ?_; dsimp only [Y_k, zq4u, zq8o, zq6n, Nat.reduceBEq, zq6k, YK, zq8t, zq5j, zq2f, nth, zq2e, zq6l, zq9i, normF, zq6m, zq86, zq8a, zq87, zq89, zq9y, t4n21, T4n21, zq9r, zq9q, zq9j])
  refine call_base (vs := [.int .i64 m, .slice A l.length c]) rfl (R := fun W v w' => ∃ X xc, v = .slice X (cycL l m).length xc ∧ RowAt w' X (isV (cycL l m)) ∧ Fresh W w') (fun W hW => (cycle15 A c m l W (hL.at hW) hok).mono ?_) (fun _ _ _ ⟨_, _, _, _, h⟩ => h) fun W v W5 hW ⟨Y2, yc2, hv, hY2, _⟩ ov1 => ?_
  ·rintro v w' ⟨h1, hf⟩
   obtain ⟨X, xc, rfl⟩ : ∃ X xc, v = .slice X (cycL l m).length xc := by
    obtain ⟨_, ⟨A, rfl, h0, _⟩ | ⟨g, b, cap, cur, rfl, _⟩⟩ := h1
    ·exact ⟨A, 0, by rw [h0]⟩
    ·exact ⟨_, _, rfl⟩
   exact ⟨X, xc, rfl, RowAt.of_own h1 rfl, hf⟩
  refine ⟨.val (.slice Y2 (cycL l m).length yc2), by rw [hv]; rfl, ?_⟩
  replace hY2 : RowE ⟨W5, W5.heap.size, [], 176, []⟩ Y2 (isV (cycL l m)) := hY2.toE (st := []) (by simp) 176 []
  replace hX := hX.over ov1
  replace hX2 := hX2.over ov1
  replace hY := hY.over ov1
  replace hO := hO.over ov1
  replace hL := hL.over ov1
  replace hBT := hBT.over ov1
  replace hBR := fun a ha => (hBR a ha).over ov1
  replace ov := ov.trans ov1
  dsimp only [zq8t]
  (refine Y_go 600 ?_; dsimp only [Y_k, zq4u, zq8o, zq6n, Nat.reduceBEq, zq6k, YK, zq8t, zq9i, normF, zq6l, zq6m, zq86, zq8a, zq87, zq89, zq9y, t4n20, T4n20, zq9r, zq9q, zq9j])
  refine behindC A c m l rfl hL hok rfl fun W6 S hs hS hSR ov1 => ?_
  replace hX := hX.over ov1
  replace hX2 := hX2.over ov1
  replace hY := hY.over ov1
  replace hY2 := hY2.over ov1
  replace hO := hO.over ov1
  replace hL := hL.over ov1
  replace hBT := hBT.over ov1
  replace hBR := fun a ha => (hBR a ha).over ov1
  replace ov := ov.trans ov1
  dsimp only [zq8t]
  (refine Y_go 600 ?_; dsimp only [Y_k, zq4u, zq8o, zq6n, Nat.reduceBEq, zq6k, YK, zq8t, zq9i, normF, zq6l, zq6m, zq86, zq8a, zq87, zq89, zq9y, t4n19, T4n19, zq9r, zq9q, zq50, zq04, zq92, zq9b, zq0i, zq9d, Y_gk, zq6e, YS, zq6a, zq9l, zq4v, zq8p, zq6o, zq0b, zq9s, zq6f, YC, t4n2, T4n2, zq6p, zq9x, YR, zq6c, YG])
  have hrl : res.1.length ≤ m := by
   rw [hres]
   split
   ·exact Nat.zero_le _
   ·exact (ordL_spec l m).1.len
  have hcl : (cycL l m).length ≤ m := by
   rcases cycL_ok hok with ⟨h, _⟩ | ⟨h, _⟩
   ·rw [h]; exact Nat.zero_le _
   ·exact nodup_le m _ h.nd h.rg
  clear hres
  refine ⟨fun h => absurd h (by simp), fun _ => ?_⟩
  refine call_val (vs := [.slice X res.1.length xc, .slice X2 res.1.length xc2]) rfl (R := fun v => v = .bool true) (fun W hW => (ints17 X X2 xc xc2 res.1 res.1 W (hX.at hW) (hX2.at hW) (by omega)).mono fun v w' h => by
   rw [decide_eq_true rfl] at h; exact h) fun v hv => ⟨.bt, by rw [hv]; simp [Is], ?_⟩
  dsimp only [zq8t]
  (refine Y_go 600 ?_; dsimp only [Y_gk, zq6n, Nat.reduceBEq, zq6l, zq6k, zq6c, YR, zq53, zq8o, zq0m, YK, zq8t, Y_k, zq4v, zq8p, zq6o, zq0c, zq4u, zq50, zq6q, zq04, zq92, zq9b, zq0i, zq9d, zq6e, YS, zq6a, zq9l, zq0b, zq9i, normF, zq6m, zq86, zq89, zq8a, zq87, zq9s, zq6f, YC, zq9y, t4n2, T4n2, zq9r, zq9q, zq6p, zq9x, YG])
  refine ⟨fun h => absurd h (by decide), fun _ => ?_⟩
  refine call_val (vs := [.slice Y (cycL l m).length yc, .slice Y2 (cycL l m).length yc2]) rfl (R := fun v => v = .bool true) (fun W hW => (ints17 Y Y2 yc yc2 (cycL l m) (cycL l m) W (hY.at hW) (hY2.at hW) (by omega)).mono fun v w' h => by
   rw [decide_eq_true rfl] at h; exact h) fun v hv => ⟨.bt, by rw [hv]; simp [Is], ?_⟩
  dsimp only [zq8t]
  (refine Y_go 600 ?_; dsimp only [Y_gk, zq6n, Nat.reduceBEq, zq6l, zq6k, zq6c, YR, zq53, zq8o, zq0m, YK, zq8t, Y_k, zq4v, zq8p, zq6o, zq0c, zq4u, zq50, zq6q, zq04, zq92, zq9b, zq0i, zq9d, zq6e, YS, zq6a, zq0b, zq9i, normF, zq6m, zq86, zq89, zq8a, zq87, zq9s, zq6f, YC, zq9y, t4n2, T4n2, zq9r, zq9q, zq6p, zq9x, zq55, zq0r, zq6h, zq8x, zq9p, t4n18, T4n18, zq9t, zq9v])
  refine ⟨fun h => absurd h (by decide), fun _ => ⟨fun h => absurd h (by simp), fun _ => ?_⟩⟩
  clear hX hX2 hY hY2 hcl hrl
  have sB : 0 < m → B.isSome = true := fun h => hBT.isSome (j := 0) (by rw [tabV_len]; exact h)
  have tb : ∀ a, a < m → CellAt ⟨W6, W6.heap.size, [], 176, []⟩ B (((a : Nat) : Int).toNat * 1) (.slice (some ⟨gs a, 0, none⟩) m m) := fun a ha => by
   rw [Int.toNat_natCast, Nat.mul_one]; exact hBT.cell (tabV_get ha)
  have rb : ∀ a k, a < m → k < m → CellAt ⟨W6, W6.heap.size, [], 176, []⟩ (some ⟨gs a, 0, none⟩) (((k : Nat) : Int).toNat * 1) (.bool (wsN l m a k)) := fun a k ha hk => by
   rw [Int.toNat_natCast, Nat.mul_one, ← wsN_bh hok]; exact (hBR a ha).cell (rwV_get _ hk)
  have sS : 0 < m → S.isSome = true := fun h => hS.isSome (j := 0) (by rw [tabV_len]; exact h)
  have ts : ∀ a, a < m → CellAt ⟨W6, W6.heap.size, [], 176, []⟩ S (((a : Nat) : Int).toNat * 1) (.slice (some ⟨hs a, 0, none⟩) m m) := fun a ha => by
   rw [Int.toNat_natCast, Nat.mul_one]; exact hS.cell (tabV_get ha)
  have rs : ∀ a k, a < m → k < m → CellAt ⟨W6, W6.heap.size, [], 176, []⟩ (some ⟨hs a, 0, none⟩) (((k : Nat) : Int).toNat * 1) (.bool (wsN l m a k)) := fun a k ha hk => by
   rw [Int.toNat_natCast, Nat.mul_one]; exact (hSR a ha).cell (rwV_get _ hk)
  clear hBT hBR hS hSR
  refine loop_go (α := Nat) (fun i => i ≤ m) (fun _ => ⟨W6, W6.heap.size, [], 176, []⟩)
   (fun i => { F := [(0, .val (.int .i64 m)), (1, .val (.slice A l.length c)), (5, .val (.slice A2 l.length c2)), (10, .val (.slice B m bc)), (16, .val (.slice S m m)), (17, .val (.int .i64 i))], H := [] }) (fun i => m - i) (fun _ => rfl) ?start ?round
  case start =>
   intro a W rep
   exact ⟨0, Nat.zero_le _, rep.le (by (simp only [setn, List.nil_append, List.cons_append, leF, leH_nil, leH_cons, leF_nil, lk, scp, scpL, scpO, resF, resH, resO, resV, resVL, nth, Nat.reduceBEq, Nat.reduceLT, decide_true, decide_false, List.length, List.length_cons, List.length_nil, Nat.reduceAdd, Bool.and_self, Bool.and_true, and_true, true_and, numF] <;> try simp)) (by (simp only [setn, List.nil_append, List.cons_append, leF, leH_nil, leH_cons, leF_nil, lk, scp, scpL, scpO, resF, resH, resO, resV, resVL, nth, Nat.reduceBEq, Nat.reduceLT, decide_true, decide_false, List.length, List.length_cons, List.length_nil, Nat.reduceAdd, Bool.and_self, Bool.and_true, and_true, true_and, numF] <;> try simp))⟩
  case round =>
   rintro i hi I again
   (refine Y_go 600 ?_; dsimp only [zq9y, t4n11, T4n11, zq9r, zq9q, Y_k, zq4u, zq8o, zq6n, Nat.reduceBEq, zq6l, zq6k, YK, zq8t, zq50, zq04, zq92, zq9b, zq0i, zq9e, zq9i, normF, zq6m, zq86, zq87, zq9s, zq6h, zq8x, YC, zq9p, t4n10, T4n10, zq9t, zq58, zq06, zq0w, zq5c, zq1p, zq1g, List.nil_append, zq1b, zq18, zq55, zq0r, zq9d, zq89, t4n3, T4n3, zq8p, zq6p, zq8a, zq9x, t4n8, T4n8, zq6q, zq9v, zq9u, popTo, zq6i, YP, t4n17, T4n17])
   refine ⟨fun hlt => ?_, fun hge => ?_⟩
   ·have him : i < m := by have := of_decide_eq_true hlt; omega
    refine ⟨⟨by omega, by omega, sB (by omega)⟩, _, _, _, tb i him, fun h => absurd h (by simp), fun _ => ?_⟩
    refine loop_go (α := Nat) (fun k => k ≤ m) (fun _ => ⟨W6, W6.heap.size, [], 176, []⟩)
     (fun k => { F := [(0, .val (.int .i64 m)), (1, .val (.slice A l.length c)), (5, .val (.slice A2 l.length c2)), (10, .val (.slice B m bc)), (16, .val (.slice S m m)), (17, .val (.int .i64 i)), (18, .val (.int .i64 k))], H := [] }) (fun k => m - k) (fun _ => rfl) ?start2 ?round2
    case start2 =>
     intro a W rep
     exact ⟨0, Nat.zero_le _, rep.le (by (simp only [setn, List.nil_append, List.cons_append, leF, leH_nil, leH_cons, leF_nil, lk, scp, scpL, scpO, resF, resH, resO, resV, resVL, nth, Nat.reduceBEq, Nat.reduceLT, decide_true, decide_false, List.length, List.length_cons, List.length_nil, Nat.reduceAdd, Bool.and_self, Bool.and_true, and_true, true_and, numF] <;> try simp)) (by (simp only [setn, List.nil_append, List.cons_append, leF, leH_nil, leH_cons, leF_nil, lk, scp, scpL, scpO, resF, resH, resO, resV, resVL, nth, Nat.reduceBEq, Nat.reduceLT, decide_true, decide_false, List.length, List.length_cons, List.length_nil, Nat.reduceAdd, Bool.and_self, Bool.and_true, and_true, true_and, numF] <;> try simp))⟩
    case round2 =>
     rintro k hk I2 again2
     (refine Y_go 600 ?_; dsimp only [zq9y, t4n7, T4n7, zq9r, zq9q, Y_k, zq4u, zq8o, zq6n, Nat.reduceBEq, zq6l, zq6k, YK, zq8t, zq50, zq04, zq92, zq9b, zq0i, zq9e, zq9i, normF, zq6m, zq86, zq87, zq9s, zq6h, zq8x, YC, zq9p, t4n6, T4n6, zq9t, zq58, zq06, zq0w, zq5c, zq1p, zq1g, List.nil_append, zq1b, zq18, zq1d, zq51, zq8w, zq0j, zq89, t4n4, T4n4, zq8p, zq6p, zq8a, zq9x, zqa1, t4n5, T4n5, zq4w, zq6q, zq0e, zqa2, zq9u, popTo, zq6i, YP, t4n9, T4n9])
     refine ⟨fun hlt => ?_, fun hge => ?_⟩
     ·have hkm : k < m := by have := of_decide_eq_true hlt; omega
      refine ⟨⟨by omega, by omega, sB (by omega)⟩, _, _, _, tb i him, ⟨by omega, by omega, rfl⟩, _, rb i k him hkm, ⟨by omega, by omega, sS (by omega)⟩, _, _, _, ts i him, ⟨by omega, by omega, rfl⟩, _, rs i k him hkm, ?_⟩
      refine ⟨fun h => ?_, fun _ => ⟨((k + 1 : Nat) : Int), ArOk.to (by omega) (by omega) (by omega), lend_rule fun a W rep => again2 (k + 1) hkm (by omega) a W (rep.le (by (simp only [setn, List.nil_append, List.cons_append, leF, leH_nil, leH_cons, leF_nil, lk, scp, scpL, scpO, resF, resH, resO, resV, resVL, nth, Nat.reduceBEq, Nat.reduceLT, decide_true, decide_false, List.length, List.length_cons, List.length_nil, Nat.reduceAdd, Bool.and_self, Bool.and_true, and_true, true_and, numF] <;> try simp)) (by (simp only [setn, List.nil_append, List.cons_append, leF, leH_nil, leH_cons, leF_nil, lk, scp, scpL, scpO, resF, resH, resO, resV, resVL, nth, Nat.reduceBEq, Nat.reduceLT, decide_true, decide_false, List.length, List.length_cons, List.length_nil, Nat.reduceAdd, Bool.and_self, Bool.and_true, and_true, true_and, numF] <;> try simp)))⟩⟩
      cases hw : wsN l m i k <;> rw [hw] at h <;> exact absurd h (by decide)
     ·exact ⟨((i + 1 : Nat) : Int), ArOk.to (by omega) (by omega) (by omega), lend_rule fun a W rep => again (i + 1) him (by omega) a W (rep.le (by (simp only [setn, List.nil_append, List.cons_append, leF, leH_nil, leH_cons, leF_nil, lk, scp, scpL, scpO, resF, resH, resO, resV, resVL, nth, Nat.reduceBEq, Nat.reduceLT, decide_true, decide_false, List.length, List.length_cons, List.length_nil, Nat.reduceAdd, Bool.and_self, Bool.and_true, and_true, true_and, numF] <;> try simp)) (by (simp only [setn, List.nil_append, List.cons_append, leF, leH_nil, leH_cons, leF_nil, lk, scp, scpL, scpO, resF, resH, resO, resV, resVL, nth, Nat.reduceBEq, Nat.reduceLT, decide_true, decide_false, List.length, List.length_cons, List.length_nil, Nat.reduceAdd, Bool.and_self, Bool.and_true, and_true, true_and, numF] <;> try simp)))⟩
   ·clear again
    refine loop_go (α := Nat) (fun k => k ≤ l.length) (fun _ => ⟨W6, W6.heap.size, [], 176, []⟩)
     (fun k => { F := [(1, .val (.slice A l.length c)), (5, .val (.slice A2 l.length c2)), (19, .val (.int .i64 k))], H := [] }) (fun k => l.length - k) (fun _ => rfl) ?start3 ?round3
    case start3 =>
     intro a W rep
     exact ⟨0, Nat.zero_le _, rep.le (by (simp only [setn, List.nil_append, List.cons_append, leF, leH_nil, leH_cons, leF_nil, lk, scp, scpL, scpO, resF, resH, resO, resV, resVL, nth, Nat.reduceBEq, Nat.reduceLT, decide_true, decide_false, List.length, List.length_cons, List.length_nil, Nat.reduceAdd, Bool.and_self, Bool.and_true, and_true, true_and, numF] <;> try simp)) (by (simp only [setn, List.nil_append, List.cons_append, leF, leH_nil, leH_cons, leF_nil, lk, scp, scpL, scpO, resF, resH, resO, resV, resVL, nth, Nat.reduceBEq, Nat.reduceLT, decide_true, decide_false, List.length, List.length_cons, List.length_nil, Nat.reduceAdd, Bool.and_self, Bool.and_true, and_true, true_and, numF] <;> try simp))⟩
    case round3 =>
     rintro k hk I3 again3
     (refine Y_go 600 ?_; dsimp only [zq9y, t4n15, T4n15, zq9r, zq9q, Y_k, zq4u, zq8o, zq6n, Nat.reduceBEq, zq6l, zq6k, YK, zq8t, zq55, zq0r, zq50, zq04, zq92, zq9b, zq0i, zq9e, zq9i, normF, zq6m, zq86, zq87, zq9s, zq6h, zq8x, YC, zq9p, t4n14, T4n14, zq9t, zq58, zq06, zq0w, zq5c, zq1p, zq1c, List.nil_append, List.cons_append, zq1b, zq17, zq5s, zq3o, eqSV, zq3p, zq89, t4n12, T4n12, zq8p, zq6p, zq8a, zq9x, zqa1, t4n13, T4n13, zq4w, zq6q, zq0e, zqa2, zq9u, popTo, zq6i, YP, t4n16, T4n16, zq6o])
     refine ⟨fun hlt => ?_, fun hge => ?_⟩
     ·have hkl : k < l.length := by have := of_decide_eq_true hlt; omega
      have hg := List.getElem?_eq_getElem hkl
      obtain ⟨ca, cb⟩ := edE_cell0 hL hg
      obtain ⟨oa, ob⟩ := edE_cell0 hO hg
      have sA : A.isSome = true := hL.isSome (j := k * 2) (by rw [cellsD_len]; omega)
      have sO : A2.isSome = true := hO.isSome (j := k * 2) (by rw [cellsD_len]; omega)
      refine ⟨⟨by omega, by omega, sO⟩, _, oa, _, ob, ⟨by omega, by omega, sA⟩, _, ca, _, cb, fun h => absurd h (by simp), fun _ => ⟨((k + 1 : Nat) : Int), ArOk.to (by omega) (by omega) (by omega), lend_rule fun a W rep => again3 (k + 1) hkl (by omega) a W (rep.le (by (simp only [setn, List.nil_append, List.cons_append, leF, leH_nil, leH_cons, leF_nil, lk, scp, scpL, scpO, resF, resH, resO, resV, resVL, nth, Nat.reduceBEq, Nat.reduceLT, decide_true, decide_false, List.length, List.length_cons, List.length_nil, Nat.reduceAdd, Bool.and_self, Bool.and_true, and_true, true_and, numF] <;> try simp)) (by (simp only [setn, List.nil_append, List.cons_append, leF, leH_nil, leH_cons, leF_nil, lk, scp, scpL, scpO, resF, resH, resO, resV, resVL, nth, Nat.reduceBEq, Nat.reduceLT, decide_true, decide_false, List.length, List.length_cons, List.length_nil, Nat.reduceAdd, Bool.and_self, Bool.and_true, and_true, true_and, numF] <;> try simp)))⟩⟩
     ·exact yes _ rfl _ rfl ov
 have call0 : ∀ (g : Nat) (A2 : Option Addr) (c2 : Nat) (F : List (Nat × SV)), leF 2 F [(41, .own 1 0), (40, .val (.int .i64 n)), (0, .val (.int .i64 n)), (1, .val (.slice A l.length c)), (5, .own 1 0)] → G (cxOf Try.prog Try.f4 K4 T4 R) ⟨w, w.heap.size, [], 176, []⟩ [.ops [⟨some 42, none, .call 10 [.tmp 40, .tmp 41]⟩, ⟨some 39, none, .k (.mov (.tmp 42))⟩, ⟨some 43, none, .k (.ext (.tmp 39) 0)⟩, ⟨some 44, none, .k (.ext (.tmp 39) 1)⟩, ⟨some 6, none, .k (.mov (.tmp 43))⟩, ⟨some 7, none, .k (.mov (.tmp 44))⟩], .code (.ref 26)] { F := F, H := [.gone g, .own 28 0 2 A2 (0 + l.length) c2 (cellsD l)] } := by
  intro g A2 c2 F hF
  rw [Nat.zero_add]
  refine G.le (E' := ⟨w, w.heap.size, [], 176, []⟩) rfl (s' := { F := [(41, .val (.slice A2 l.length c2)), (40, .val (.int .i64 n)), (0, .val (.int .i64 n)), (1, .val (.slice A l.length c)), (5, .val (.slice A2 l.length c2))], H := [] ++ [.gone g, .own 28 0 2 A2 l.length c2 (cellsD l)] }) (fun a W rep => ?_) ?_
  ·have r1 := Rep.few rep 2 hF
   exact ((r1.plain 41 rfl rfl).plain 5 rfl rfl).le (by (simp only [setn, List.nil_append, List.cons_append, leF, leH_nil, leH_cons, leF_nil, lk, scp, scpL, scpO, resF, resH, resO, resV, resVL, nth, Nat.reduceBEq, Nat.reduceLT, decide_true, decide_false, List.length, List.length_cons, List.length_nil, Nat.reduceAdd, Bool.and_self, Bool.and_true, and_true, true_and, numF] <;> try simp)) (by (simp only [setn, List.nil_append, List.cons_append, leF, leH_nil, leH_cons, leF_nil, lk, scp, scpL, scpO, resF, resH, resO, resV, resVL, nth, Nat.reduceBEq, Nat.reduceLT, decide_true, decide_false, List.length, List.length_cons, List.length_nil, Nat.reduceAdd, Bool.and_self, Bool.and_true, and_true, true_and, numF] <;> try simp))
  refine G.cut (H1 := []) rfl (by (simp only [setn, List.nil_append, List.cons_append, leF, leH_nil, leH_cons, leF_nil, lk, scp, scpL, scpO, resF, resH, resO, resV, resVL, nth, Nat.reduceBEq, Nat.reduceLT, decide_true, decide_false, List.length, List.length_cons, List.length_nil, Nat.reduceAdd, Bool.and_self, Bool.and_true, and_true, true_and, numF] <;> try simp)) fun W0 hW0 hov => ?_
  have hO : RowE ⟨W0, W0.heap.size, [], 176, []⟩ A2 (cellsD l) := hW0.offO (t := 28) (ver := 0) (sz := 2) (n := l.length) (c := c2) (by simp) 176 []
  have hL : RowE ⟨W0, W0.heap.size, [], 176, []⟩ A (cellsD l) := (hA.toE (st := []) (by simp) 176 []).over hov
  by_cases hok : okG n l
  ·exact good n.toNat (Int.toNat_of_nonneg hok.1) hok _ A2 c2 rfl rfl rfl hO hL hov
  ·exact fail hok _ A2 c2 rfl rfl rfl hO hL hov
 have hrd := hA.rd (nt := 176) (cellsD_one l)
 rw [cellsD_len] at hrd
 (refine Y_go 600 ?_; dsimp only [X4, numF, Nat.reduceAdd, zq9r, zq9q, Y_k, zq4u, zq8p, zq6p, YK, zq8t, zq9i, normF, zq6n, Nat.reduceBEq, zq6l, zq6k, zq6m, zq86, zq8a, zq87, zq9y, t4n29, T4n29, zq8o, zq50, zq6q, zq04, zq92, zq9b, zq0i, zq9g, Y_gk, zq6d, YR, zq69, zq9f, zq4v, zq0b, zq6e, YS, zq6a, zq02, zq6o, zq89, zq9s, zq6f, YC, t4n0, T4n0, zq9x, zq6c, zq55, zq0r, zq0c, zq6h, zq8x, zq9p, t4n28, T4n28, zq5h, List.map, repL, zq24, zq26, List.length_nil, List.nil_append, zq5l, zq2x, nth, zq2u, Nat.reduceMul, denL, zq2t, zq2r, zq2o, zq2i, List.length_cons, setn, List.cons_append, zq8f, t4n27, T4n27, zq9j, zq6b, zq6g])
 have leaf : ∀ (F : List (Nat × SV)), leF 2 F [(41, .own 1 0), (40, .val (.int .i64 n)), (0, .val (.int .i64 n)), (1, .val (.slice A l.length c)), (5, .own 1 0)] → ∀ g : Nat, ∃ news, RdOld ⟨w, w.heap.size, [], 176, []⟩ A (l.length * 2) news ∧ (0 + l.length ≤ maxLen ∧ (0 + l.length) * 16 ≤ 140737488355328) ∧ ∀ (A2 : Option Addr) (c2 : Nat), G (cxOf Try.prog Try.f4 K4 T4 R) ⟨w, w.heap.size, [], 176, []⟩ [.ops [⟨some 42, none, .call 10 [.tmp 40, .tmp 41]⟩, ⟨some 39, none, .k (.mov (.tmp 42))⟩, ⟨some 43, none, .k (.ext (.tmp 39) 0)⟩, ⟨some 44, none, .k (.ext (.tmp 39) 1)⟩, ⟨some 6, none, .k (.mov (.tmp 43))⟩, ⟨some 7, none, .k (.mov (.tmp 44))⟩], .code (.ref 26)] { F := F, H := [.gone g, .own 28 0 2 A2 (0 + l.length) c2 news] } := fun F hF g =>
  ⟨cellsD l, hrd, ⟨by simp only [maxLen]; omega, by omega⟩, fun A2 c2 => call0 g A2 c2 F hF⟩
 refine ⟨fun _ => ⟨fun _ => yes _ rfl _ rfl (Over.refl _), fun _ => ⟨fun _ => ⟨fun _ => yes _ rfl _ rfl (Over.refl _), fun _ => leaf _ (by (simp only [setn, List.nil_append, List.cons_append, leF, leH_nil, leH_cons, leF_nil, lk, scp, scpL, scpO, resF, resH, resO, resV, resVL, nth, Nat.reduceBEq, Nat.reduceLT, decide_true, decide_false, List.length, List.length_cons, List.length_nil, Nat.reduceAdd, Bool.and_self, Bool.and_true, and_true, true_and, numF] <;> try simp))⟩, fun _ => leaf _ (by (simp only [setn, List.nil_append, List.cons_append, leF, leH_nil, leH_cons, leF_nil, lk, scp, scpL, scpO, resF, resH, resO, resV, resVL, nth, Nat.reduceBEq, Nat.reduceLT, decide_true, decide_false, List.length, List.length_cons, List.length_nil, Nat.reduceAdd, Bool.and_self, Bool.and_true, and_true, true_and, numF] <;> try simp))⟩⟩, fun _ => ⟨fun _ => ⟨fun _ => yes _ rfl _ rfl (Over.refl _), fun _ => leaf _ (by (simp only [setn, List.nil_append, List.cons_append, leF, leH_nil, leH_cons, leF_nil, lk, scp, scpL, scpO, resF, resH, resO, resV, resVL, nth, Nat.reduceBEq, Nat.reduceLT, decide_true, decide_false, List.length, List.length_cons, List.length_nil, Nat.reduceAdd, Bool.and_self, Bool.and_true, and_true, true_and, numF] <;> try simp))⟩, fun _ => leaf _ (by (simp only [setn, List.nil_append, List.cons_append, leF, leH_nil, leH_cons, leF_nil, lk, scp, scpL, scpO, resF, resH, resO, resV, resVL, nth, Nat.reduceBEq, Nat.reduceLT, decide_true, decide_false, List.length, List.length_cons, List.length_nil, Nat.reduceAdd, Bool.and_self, Bool.and_true, and_true, true_and, numF] <;> try simp))⟩⟩
end Go.Proofs.Ytbkpiljencaoeaa
