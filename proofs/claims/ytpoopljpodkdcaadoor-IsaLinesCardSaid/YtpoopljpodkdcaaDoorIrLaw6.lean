/- The walk: what digits say (shuntref10.number). -/
import Derived.Test.YtpoopljpodkdcaaDoorIrCode
import Derived.Test.YtpoopljpodkdcaaDoorIrPlain
import Derived.Test.YtpoopljpodkdcaaDoorIrLaw1
import Derived.Test.YtpoopljpodkdcaaDoorIlLaw3
set_option linter.unusedSimpArgs false
set_option linter.unusedVariables false
set_option linter.unnecessarySimpa false
namespace Go.Proofs.YtpoopljpodkdcaaDoor
open Go Go.Sx Go.Isa
set_option maxRecDepth 100000

theorem rep_swap {E : Env} {F : List (Nat × SV)} {H : List SO} {a : Act} {W : World} (d : Nat) {x y : SV} (rep : Rep E { F := F, H := H } a W) (hl : lk F d = x) (h : ∀ v, Is H x v → Is H y v) : Rep E { F := (d, y) :: F, H := H } a W := by
  refine ⟨rep.size, fun d' => ?_, rep.defers, rep.heap⟩
  have h1 := rep.frame d'
  cases e : d == d' with
  | true =>
    have := eq_of_beq e
    subst this
    simp only [lk, e]
    simp only [hl] at h1
    exact h _ h1
  | false =>
    simp only [lk, e]
    exact h1
def endOps : List XS := match T39n8 with | .seq (.ops l) _ => l.drop 2 | _ => []
structure NI where
  n : Int
  i : Nat
structure NOk (s : List UInt8) (x : NI) : Prop where
  le : x.i ≤ s.length
  lo : -9223372036854775808 ≤ x.n
  hi : x.n ≤ 0
  ok : ∀ m, is64 m → Lib.itoa m = s → Lib.parseUint10 x.n.natAbs (s.drop x.i) = .ok m.natAbs
theorem number39 (s : List UInt8) (w : World) (hs : s.length ≤ 1000) : CallsV Tryd.prog 39 [.string ⟨⟨s⟩⟩] w fun v w' => (∃ n b, v = .tuple #[.int .i64 n, .bool b] ∧ is64 n ∧ (b = true → Lib.itoa n = s) ∧ ∀ m, is64 m → Lib.itoa m = s → b = true) ∧ Fresh w w' := by
  refine calls_go (keep := K39) (nt := 61) (svs := [.val (.string ⟨⟨s⟩⟩)]) Tryd.func39 x39 n39 (by simp) (by simp [IsL, Is]) fun R hR => ?_
  (refine Y_go 600 ?_; dsimp only [zq00, zq01, zq02, zq03, zq04, zq05, zq06, zq07, zq08, zq09, zq0a, zq0b, zq0c, zq0d, zq0e, zq0f, zq0g, zq0h, zq0i, zq0j, zq0k, zq0l, zq0m, zq0n, zq0o, zq0p, zq0q, zq0r, zq0s, zq0t, zq0u, zq0v, zq0w, zq0x, zq0y, zq0z, zq10, zq11, zq12, zq13, zq14, zq15, zq16, zq17, zq18, zq19, zq1a, zq1b, zq1c, zq1d, zq1e, zq1f, zq1g, zq1h, zq1i, zq1j, zq1k, zq1l, zq1m, zq1n, zq1o, zq1p, zq1q, zq1r, zq1s, zq1t, zq1u, zq1v, zq1w, zq1x, zq1y, zq1z, zq20, zq21, zq22, zq23, zq24, zq25, zq26, zq27, zq28, zq29, zq2a, zq2b, zq2c, zq2d, zq2e, zq2f, zq2g, zq2h, zq2i, zq2j, zq2k, zq2l, zq2m, zq2n, zq2o, zq2p, zq2q, zq2r, zq2s, zq2t, zq2u, zq2v, zq2w, zq2x, zq2y, zq2z, zq30, zq31, zq32, zq33, zq34, zq35, zq36, zq37, zq38, zq39, zq3a, zq3b, zq3c, zq3d, zq3e, zq3f, zq3g, zq3h, zq3i, zq3j, zq3k, zq3l, zq3m, zq3n, zq3o, zq3p, zq3q, zq3r, zq3s, zq3t, zq3u, zq3v, zq3w, zq3x, zq3y, zq3z, zq40, zq41, zq42, zq43, zq44, zq45, zq46, zq47, zq48, zq49, zq4a, zq4b, zq4c, zq4d, zq4e, zq4f, zq4g, zq4h, zq4i, zq4j, zq4k, zq4l, zq4m, zq4n, zq4o, zq4p, zq4q, zq4r, zq4s, zq4t, zq4u, zq4v, zq4w, zq4x, zq4y, zq4z, zq50, zq51, zq52, zq53, zq54, zq55, zq56, zq57, zq58, zq59, zq5a, zq5b, zq5c, zq5d, zq5e, zq5f, zq5g, zq5h, zq5i, zq5j, zq5k, zq5l, zq5m, zq5n, zq5o, zq5p, zq5q, zq5r, zq5s, zq5t, zq5u, zq5v, zq5w, zq5x, zq5y, zq5z, zq60, zq61, zq62, zq63, zq64, zq65, zq66, zq67, zq68, zq69, zq6a, zq6b, zq6c, zq6d, zq6e, zq6f, zq6g, zq6h, zq6i, zq6j, zq6k, zq6l, zq6m, zq6n, zq6o, zq6p, zq6q, zq6r, zq6s, zq6t, zq6u, zq6v, zq6w, zq6x, zq6y, zq6z, zq70, zq71, zq72, zq73, zq74, zq75, zq76, zq77, zq78, zq79, zq7a, zq7b, zq7c, zq7d, zq7e, zq7f, zq7g, zq7h, zq7i, zq7j, zq7k, zq7l, zq7m, zq7n, zq7o, zq7p, zq7q, zq7r, zq7s, zq7t, zq7u, zq7v, zq7w, zq7x, zq7y, zq7z, zq80, zq81, zq82, zq83, zq84, zq85, zq86, zq87, zq88, zq89, zq8a, zq8b, zq8c, zq8d, zq8e, zq8f, zq8g, zq8h, zq8i, zq8j, zq8k, zq8l, zq8m, zq8n, zq8o, zq8p, zq8q, zq8r, zq8s, zq8t, zq8u, zq8v, zq8w, zq8x, zq8y, zq8z, zq90, zq91, zq92, zq93, zq94, zq95, zq96, zq97, zq98, zq99, Y_k, Y_gk, zq9a, zq9b, zq9c, zq9d, zq9e, zq9f, zq9g, zq9h, zq9i, zq9j, zq9k, zq9l, zq9m, zq9n, zq9o, zq9p, zq9q, zq9r, zq9s, zq9t, zq9u, YK, YR, YS, YG, YC, YP, normF, popTo, nth, setn, evL, takeL, dropL, splice, repL, denL, den, blk, eqSV, List.map, List.length, List.cons_append, List.nil_append, List.length_cons, List.length_nil, Int.reduceToNat, Nat.reduceBEq, Nat.reduceAdd, Nat.reduceMul, Nat.reduceSub, beq_self_eq_true, Nat.zero_add, Nat.add_zero, numF, X39, t39n0, T39n0, t39n1, T39n1, t39n2, T39n2, t39n3, T39n3, t39n4, T39n4, t39n5, T39n5, t39n6, T39n6, t39n7, T39n7, t39n8, T39n8, t39n9, T39n9, t39n10, T39n10, t39n11, T39n11, t39n12, T39n12, t39n13, T39n13, t39n14, T39n14])
  have bad : (∀ m, is64 m → ¬ Lib.itoa m = s) → ∀ F H, denAll H F [2, 3] = some [.int .i64 0, .bool false] → RetG (cxOf Tryd.prog Tryd.f39 K39 T39 R) ⟨w, w.heap.size, [], 61, []⟩ { F := F, H := H } := fun hk F H hd =>
    ret_rule r39 rfl hd fun W hW => hR _ _ ⟨⟨0, false, rfl, ⟨by omega, by omega⟩, by simp, fun m h64 hm => absurd hm (hk m h64)⟩, hW.fresh'⟩
  have key : ∀ (b : Bool) (at0 : Nat) (F0 : List (Nat × SV)), at0 ≤ s.length → (b = true ↔ s.head? = some 45) → (∀ m, is64 m → Lib.itoa m = s → Lib.parseUint10 0 (s.drop at0) = .ok m.natAbs) →
      (∀ a W, Rep ⟨w, w.heap.size, [], 61, []⟩ { F := F0, H := [] } a W → Rep ⟨w, w.heap.size, [], 61, []⟩ { F := [(0, .val (.string ⟨⟨s⟩⟩)), (2, .val (.int .i64 0)), (3, .bf), (4, .val (.int .i64 0)), (5, .val (.bool b)), (7, .val (.int .i64 at0))], H := [] } a W) →
      G (cxOf Tryd.prog Tryd.f39 K39 T39 R) ⟨w, w.heap.size, [], 61, []⟩ [.code (.loop (.ref 6)), .blk 0, .code (.ref 9)] { F := F0, H := [] } := by
    intro b at0 F0 ha hb hst hle
    refine loop_go (α := NI) (fun x => NOk s x) (fun _ => ⟨w, w.heap.size, [], 61, []⟩)
      (fun x => { F := [(0, .val (.string ⟨⟨s⟩⟩)), (2, .val (.int .i64 0)), (3, .bf), (4, .val (.int .i64 x.n)), (5, .val (.bool b)), (7, .val (.int .i64 x.i))], H := [] }) (fun x => s.length - x.i) (fun _ => rfl) ?start ?round
    case start =>
      intro a W rep
      exact ⟨⟨0, at0⟩, ⟨ha, by show (-9223372036854775808 : Int) ≤ 0; omega, Int.le_refl _, hst⟩, hle a W rep⟩
    case round =>
      rintro ⟨n, i⟩ hx I hI
      obtain ⟨hi, hlo, hhi, hok⟩ := hx
      dsimp only at hi hlo hhi hok
      (refine Y_go 600 ?_; dsimp only [zq00, zq01, zq02, zq03, zq04, zq05, zq06, zq07, zq08, zq09, zq0a, zq0b, zq0c, zq0d, zq0e, zq0f, zq0g, zq0h, zq0i, zq0j, zq0k, zq0l, zq0m, zq0n, zq0o, zq0p, zq0q, zq0r, zq0s, zq0t, zq0u, zq0v, zq0w, zq0x, zq0y, zq0z, zq10, zq11, zq12, zq13, zq14, zq15, zq16, zq17, zq18, zq19, zq1a, zq1b, zq1c, zq1d, zq1e, zq1f, zq1g, zq1h, zq1i, zq1j, zq1k, zq1l, zq1m, zq1n, zq1o, zq1p, zq1q, zq1r, zq1s, zq1t, zq1u, zq1v, zq1w, zq1x, zq1y, zq1z, zq20, zq21, zq22, zq23, zq24, zq25, zq26, zq27, zq28, zq29, zq2a, zq2b, zq2c, zq2d, zq2e, zq2f, zq2g, zq2h, zq2i, zq2j, zq2k, zq2l, zq2m, zq2n, zq2o, zq2p, zq2q, zq2r, zq2s, zq2t, zq2u, zq2v, zq2w, zq2x, zq2y, zq2z, zq30, zq31, zq32, zq33, zq34, zq35, zq36, zq37, zq38, zq39, zq3a, zq3b, zq3c, zq3d, zq3e, zq3f, zq3g, zq3h, zq3i, zq3j, zq3k, zq3l, zq3m, zq3n, zq3o, zq3p, zq3q, zq3r, zq3s, zq3t, zq3u, zq3v, zq3w, zq3x, zq3y, zq3z, zq40, zq41, zq42, zq43, zq44, zq45, zq46, zq47, zq48, zq49, zq4a, zq4b, zq4c, zq4d, zq4e, zq4f, zq4g, zq4h, zq4i, zq4j, zq4k, zq4l, zq4m, zq4n, zq4o, zq4p, zq4q, zq4r, zq4s, zq4t, zq4u, zq4v, zq4w, zq4x, zq4y, zq4z, zq50, zq51, zq52, zq53, zq54, zq55, zq56, zq57, zq58, zq59, zq5a, zq5b, zq5c, zq5d, zq5e, zq5f, zq5g, zq5h, zq5i, zq5j, zq5k, zq5l, zq5m, zq5n, zq5o, zq5p, zq5q, zq5r, zq5s, zq5t, zq5u, zq5v, zq5w, zq5x, zq5y, zq5z, zq60, zq61, zq62, zq63, zq64, zq65, zq66, zq67, zq68, zq69, zq6a, zq6b, zq6c, zq6d, zq6e, zq6f, zq6g, zq6h, zq6i, zq6j, zq6k, zq6l, zq6m, zq6n, zq6o, zq6p, zq6q, zq6r, zq6s, zq6t, zq6u, zq6v, zq6w, zq6x, zq6y, zq6z, zq70, zq71, zq72, zq73, zq74, zq75, zq76, zq77, zq78, zq79, zq7a, zq7b, zq7c, zq7d, zq7e, zq7f, zq7g, zq7h, zq7i, zq7j, zq7k, zq7l, zq7m, zq7n, zq7o, zq7p, zq7q, zq7r, zq7s, zq7t, zq7u, zq7v, zq7w, zq7x, zq7y, zq7z, zq80, zq81, zq82, zq83, zq84, zq85, zq86, zq87, zq88, zq89, zq8a, zq8b, zq8c, zq8d, zq8e, zq8f, zq8g, zq8h, zq8i, zq8j, zq8k, zq8l, zq8m, zq8n, zq8o, zq8p, zq8q, zq8r, zq8s, zq8t, zq8u, zq8v, zq8w, zq8x, zq8y, zq8z, zq90, zq91, zq92, zq93, zq94, zq95, zq96, zq97, zq98, zq99, Y_k, Y_gk, zq9a, zq9b, zq9c, zq9d, zq9e, zq9f, zq9g, zq9h, zq9i, zq9j, zq9k, zq9l, zq9m, zq9n, zq9o, zq9p, zq9q, zq9r, zq9s, zq9t, zq9u, YK, YR, YS, YG, YC, YP, normF, popTo, nth, setn, evL, takeL, dropL, splice, repL, denL, den, blk, eqSV, List.map, List.length, List.cons_append, List.nil_append, List.length_cons, List.length_nil, Int.reduceToNat, Nat.reduceBEq, Nat.reduceAdd, Nat.reduceMul, Nat.reduceSub, beq_self_eq_true, Nat.zero_add, Nat.add_zero, t39n0, T39n0, t39n1, T39n1, t39n2, T39n2, t39n3, T39n3, t39n4, T39n4, t39n5, T39n5, t39n6, T39n6, t39n7, T39n7, t39n8, T39n8, t39n9, T39n9, t39n10, T39n10, t39n11, T39n11, t39n12, T39n12, t39n13, T39n13, t39n14, T39n14])
      refine ⟨fun hlt => ?_, fun hge => ?_⟩
      · have hlt : i < s.length := by have := of_decide_eq_true hlt; rw [size_str] at this; omega
        have hdrop : s.drop i = s[i] :: s.drop (i + 1) := List.drop_eq_getElem_cons hlt
        have c255 : s[i].toNat < 256 := s[i].toNat_lt
        have hk : ∀ m, is64 m → Lib.itoa m = s → 48 ≤ s[i].toNat ∧ s[i].toNat ≤ 57 ∧ Lib.parseUint10 (n.natAbs * 10 + (s[i].toNat - 48)) (s.drop (i + 1)) = .ok m.natAbs ∧ n.natAbs * 10 + (s[i].toNat - 48) ≤ m.natAbs := by
          intro m h64 hm
          have := hok m h64 hm
          rw [hdrop] at this
          exact Il.pu_step this
        have no : (s[i].toNat < 48 ∨ 57 < s[i].toNat ∨ n < -922337203685477580 ∨ n = -922337203685477580 ∧ 56 < s[i].toNat) → ∀ m, is64 m → ¬ Lib.itoa m = s := by
          intro h m h64 hm
          obtain ⟨h1, h2, _, h3⟩ := hk m h64 hm
          unfold is64 at h64
          omega
        have go : 48 ≤ s[i].toNat → s[i].toNat ≤ 57 → -922337203685477580 ≤ n → (n = -922337203685477580 → s[i].toNat ≤ 56) → NOk s ⟨10 * n - ((s[i].toNat : Int) - 48), i + 1⟩ := by
          intro h1 h2 h3 h4
          refine ⟨hlt, by show -9223372036854775808 ≤ 10 * n - ((s[i].toNat : Int) - 48); omega, by show 10 * n - ((s[i].toNat : Int) - 48) ≤ 0; omega, fun m h64 hm => ?_⟩
          obtain ⟨_, _, h5, _⟩ := hk m h64 hm
          rw [show (10 * n - ((s[i].toNat : Int) - 48)).natAbs = n.natAbs * 10 + (s[i].toNat - 48) by omega]
          exact h5
        have fin : 48 ≤ s[i].toNat → s[i].toNat ≤ 57 → -922337203685477580 ≤ n → (n = -922337203685477580 → s[i].toNat ≤ 56) → ∀ (F : List (Nat × SV)), (∀ a W, Rep ⟨w, w.heap.size, [], 61, []⟩ { F := F, H := [] } a W → Rep ⟨w, w.heap.size, [], 61, []⟩ { F := [(0, .val (.string ⟨⟨s⟩⟩)), (2, .val (.int .i64 0)), (3, .bf), (4, .val (.int .i64 (10 * n - ((s[i].toNat : Int) - 48)))), (5, .val (.bool b)), (7, .val (.int .i64 (i + 1 : Nat)))], H := [] } a W) → G (cxOf Tryd.prog Tryd.f39 K39 T39 R) ⟨w, w.heap.size, [], 61, []⟩ [.lend I, .blk 0, .code (.ref 9)] { F := F, H := [] } :=
          fun h1 h2 h3 h4 F hF => lend_rule fun a W rep => hI ⟨_, i + 1⟩ (go h1 h2 h3 h4) (by show s.length - (i + 1) < s.length - i; omega) a W (hF a W rep)
        refine ⟨by omega, s[i], by show (⟨s⟩ : Array UInt8)[(i : Int).toNat]? = some s[i]; simp [hlt], (s[i].toNat : Int), .i64 (by omega) (by omega), (s[i].toNat : Int) - 48, .sub64 (by omega) (by omega), fun e => bad (no (by have := of_decide_eq_true e; omega)) _ _ rfl, fun e => ⟨fun e1 => bad (no (by have := of_decide_eq_true e1; omega)) _ _ rfl, fun e1 => ⟨fun e2 => bad (no (by have := of_decide_eq_true e2; omega)) _ _ rfl, fun e2 => ?_⟩⟩⟩
        have e := of_decide_eq_false e
        have e1 := of_decide_eq_false e1
        have e2 := of_decide_eq_false e2
        refine ⟨fun e3 => ⟨fun e4 => bad (no (by have := of_decide_eq_true e4; have := eq_of_beq e3; omega)) _ _ rfl, fun e4 => ?_⟩, fun e3 => ?_⟩
        · have e4 := of_decide_eq_false e4
          refine ⟨_, .mul64 (by omega) (by omega), _, .sub64 (by omega) (by omega), ((i + 1 : Nat) : Int), .add64 (by omega) (by omega), fin (by omega) (by omega) (by omega) (by omega) _ fun a W rep => rep.le (by (simp only [setn, List.nil_append, List.cons_append, leF, leH_nil, leH_cons, leF_nil, lk, scp, scpL, scpO, resF, resH, resO, resV, resVL, nth, Nat.reduceBEq, Nat.reduceLT, decide_true, decide_false, List.length, List.length_cons, List.length_nil, Nat.reduceAdd, Bool.and_self, Bool.and_true, and_true, true_and, numF] <;> try simp)) (by (simp only [setn, List.nil_append, List.cons_append, leF, leH_nil, leH_cons, leF_nil, lk, scp, scpL, scpO, resF, resH, resO, resV, resVL, nth, Nat.reduceBEq, Nat.reduceLT, decide_true, decide_false, List.length, List.length_cons, List.length_nil, Nat.reduceAdd, Bool.and_self, Bool.and_true, and_true, true_and, numF] <;> try simp))⟩
        · have e3 : n ≠ -922337203685477580 := by intro h; rw [h] at e3; simp at e3
          refine ⟨_, .mul64 (by omega) (by omega), _, .sub64 (by omega) (by omega), ((i + 1 : Nat) : Int), .add64 (by omega) (by omega), fin (by omega) (by omega) (by omega) (by omega) _ fun a W rep => rep.le (by (simp only [setn, List.nil_append, List.cons_append, leF, leH_nil, leH_cons, leF_nil, lk, scp, scpL, scpO, resF, resH, resO, resV, resVL, nth, Nat.reduceBEq, Nat.reduceLT, decide_true, decide_false, List.length, List.length_cons, List.length_nil, Nat.reduceAdd, Bool.and_self, Bool.and_true, and_true, true_and, numF] <;> try simp)) (by (simp only [setn, List.nil_append, List.cons_append, leF, leH_nil, leH_cons, leF_nil, lk, scp, scpL, scpO, resF, resH, resO, resV, resVL, nth, Nat.reduceBEq, Nat.reduceLT, decide_true, decide_false, List.length, List.length_cons, List.length_nil, Nat.reduceAdd, Bool.and_self, Bool.and_true, and_true, true_and, numF] <;> try simp))⟩
      · have hil : i = s.length := by have := of_decide_eq_false hge; rw [size_str] at this; omega
        subst hil
        have habs : ∀ m, is64 m → Lib.itoa m = s → n.natAbs = m.natAbs := by
          intro m h64 hm
          have := hok m h64 hm
          rw [List.drop_length] at this
          simp only [Lib.parseUint10] at this
          injection this
        have out : ∀ r : Int, is64 r → (∀ m, is64 m → Lib.itoa m = s → r = m) → G (cxOf Tryd.prog Tryd.f39 K39 T39 R) ⟨w, w.heap.size, [], 61, []⟩ [.ops endOps, .code .ret] { F := [(57, .val (.int .i64 r)), (56, .val (.int .i64 r)), (0, .val (.string ⟨⟨s⟩⟩))], H := [] } := by
          intro r h64 hm
          unfold endOps
          dsimp only [T39n8, List.drop]
          refine call_val (vs := [.int .i64 r]) rfl (fun W hW => digits42 r W h64.1 h64.2) fun v hv => ⟨.val (.string ⟨⟨Lib.itoa r⟩⟩), by rw [hv]; simp [Is], ?_⟩
          (refine Y_go 600 ?_; dsimp only [zq00, zq01, zq02, zq03, zq04, zq05, zq06, zq07, zq08, zq09, zq0a, zq0b, zq0c, zq0d, zq0e, zq0f, zq0g, zq0h, zq0i, zq0j, zq0k, zq0l, zq0m, zq0n, zq0o, zq0p, zq0q, zq0r, zq0s, zq0t, zq0u, zq0v, zq0w, zq0x, zq0y, zq0z, zq10, zq11, zq12, zq13, zq14, zq15, zq16, zq17, zq18, zq19, zq1a, zq1b, zq1c, zq1d, zq1e, zq1f, zq1g, zq1h, zq1i, zq1j, zq1k, zq1l, zq1m, zq1n, zq1o, zq1p, zq1q, zq1r, zq1s, zq1t, zq1u, zq1v, zq1w, zq1x, zq1y, zq1z, zq20, zq21, zq22, zq23, zq24, zq25, zq26, zq27, zq28, zq29, zq2a, zq2b, zq2c, zq2d, zq2e, zq2f, zq2g, zq2h, zq2i, zq2j, zq2k, zq2l, zq2m, zq2n, zq2o, zq2p, zq2q, zq2r, zq2s, zq2t, zq2u, zq2v, zq2w, zq2x, zq2y, zq2z, zq30, zq31, zq32, zq33, zq34, zq35, zq36, zq37, zq38, zq39, zq3a, zq3b, zq3c, zq3d, zq3e, zq3f, zq3g, zq3h, zq3i, zq3j, zq3k, zq3l, zq3m, zq3n, zq3o, zq3p, zq3q, zq3r, zq3s, zq3t, zq3u, zq3v, zq3w, zq3x, zq3y, zq3z, zq40, zq41, zq42, zq43, zq44, zq45, zq46, zq47, zq48, zq49, zq4a, zq4b, zq4c, zq4d, zq4e, zq4f, zq4g, zq4h, zq4i, zq4j, zq4k, zq4l, zq4m, zq4n, zq4o, zq4p, zq4q, zq4r, zq4s, zq4t, zq4u, zq4v, zq4w, zq4x, zq4y, zq4z, zq50, zq51, zq52, zq53, zq54, zq55, zq56, zq57, zq58, zq59, zq5a, zq5b, zq5c, zq5d, zq5e, zq5f, zq5g, zq5h, zq5i, zq5j, zq5k, zq5l, zq5m, zq5n, zq5o, zq5p, zq5q, zq5r, zq5s, zq5t, zq5u, zq5v, zq5w, zq5x, zq5y, zq5z, zq60, zq61, zq62, zq63, zq64, zq65, zq66, zq67, zq68, zq69, zq6a, zq6b, zq6c, zq6d, zq6e, zq6f, zq6g, zq6h, zq6i, zq6j, zq6k, zq6l, zq6m, zq6n, zq6o, zq6p, zq6q, zq6r, zq6s, zq6t, zq6u, zq6v, zq6w, zq6x, zq6y, zq6z, zq70, zq71, zq72, zq73, zq74, zq75, zq76, zq77, zq78, zq79, zq7a, zq7b, zq7c, zq7d, zq7e, zq7f, zq7g, zq7h, zq7i, zq7j, zq7k, zq7l, zq7m, zq7n, zq7o, zq7p, zq7q, zq7r, zq7s, zq7t, zq7u, zq7v, zq7w, zq7x, zq7y, zq7z, zq80, zq81, zq82, zq83, zq84, zq85, zq86, zq87, zq88, zq89, zq8a, zq8b, zq8c, zq8d, zq8e, zq8f, zq8g, zq8h, zq8i, zq8j, zq8k, zq8l, zq8m, zq8n, zq8o, zq8p, zq8q, zq8r, zq8s, zq8t, zq8u, zq8v, zq8w, zq8x, zq8y, zq8z, zq90, zq91, zq92, zq93, zq94, zq95, zq96, zq97, zq98, zq99, Y_k, Y_gk, zq9a, zq9b, zq9c, zq9d, zq9e, zq9f, zq9g, zq9h, zq9i, zq9j, zq9k, zq9l, zq9m, zq9n, zq9o, zq9p, zq9q, zq9r, zq9s, zq9t, zq9u, YK, YR, YS, YG, YC, YP, normF, popTo, nth, setn, evL, takeL, dropL, splice, repL, denL, den, blk, eqSV, List.map, List.length, List.cons_append, List.nil_append, List.length_cons, List.length_nil, Int.reduceToNat, Nat.reduceBEq, Nat.reduceAdd, Nat.reduceMul, Nat.reduceSub, beq_self_eq_true, Nat.zero_add, Nat.add_zero, t39n0, T39n0, t39n1, T39n1, t39n2, T39n2, t39n3, T39n3, t39n4, T39n4, t39n5, T39n5, t39n6, T39n6, t39n7, T39n7, t39n8, T39n8, t39n9, T39n9, t39n10, T39n10, t39n11, T39n11, t39n12, T39n12, t39n13, T39n13, t39n14, T39n14])
          refine ret_rule (vs := [_, _]) r39 rfl rfl fun W hW => hR _ _ ⟨⟨r, strB .eql ⟨⟨Lib.itoa r⟩⟩ ⟨⟨s⟩⟩, rfl, h64, fun e => ?_, fun m h1 h2 => ?_⟩, hW.fresh'⟩
          · have e1 : (decide (Lib.itoa r = s)) = true := by rw [← e]; exact (strEq _ _).symm
            exact of_decide_eq_true e1
          · rw [strEq]; exact decide_eq_true (by rw [hm m h1 h2]; exact h2)
        have hnb : ∀ m, is64 m → Lib.itoa m = s → (b = true ↔ m < 0) := fun m h1 h2 => hb.trans (Il.head_neg h2).1
        refine ⟨fun e => ?_, fun e => ?_⟩
        · have hbf : b = false := by cases b <;> simp_all
          by_cases h63 : n = -9223372036854775808
          · refine ⟨-9223372036854775808, by show _ = IntKind.wrap .i64 _; rw [IntKind.wrap_i64, h63]; decide, fun a W rep => out (-9223372036854775808) ⟨by omega, by omega⟩ (fun m h1 h2 => ?_) a W (rep.le (by (simp only [setn, List.nil_append, List.cons_append, leF, leH_nil, leH_cons, leF_nil, lk, scp, scpL, scpO, resF, resH, resO, resV, resVL, nth, Nat.reduceBEq, Nat.reduceLT, decide_true, decide_false, List.length, List.length_cons, List.length_nil, Nat.reduceAdd, Bool.and_self, Bool.and_true, and_true, true_and, numF] <;> try simp)) (by (simp only [setn, List.nil_append, List.cons_append, leF, leH_nil, leH_cons, leF_nil, lk, scp, scpL, scpO, resF, resH, resO, resV, resVL, nth, Nat.reduceBEq, Nat.reduceLT, decide_true, decide_false, List.length, List.length_cons, List.length_nil, Nat.reduceAdd, Bool.and_self, Bool.and_true, and_true, true_and, numF] <;> try simp)))⟩
            have h3 := habs m h1 h2
            have h4 := hnb m h1 h2
            rw [hbf] at h4
            have : ¬ m < 0 := fun k => by simpa using h4.2 k
            unfold is64 at h1
            omega
          · refine ⟨0 - n, .i64 (by omega) (by omega), fun a W rep => out (0 - n) ⟨by omega, by omega⟩ (fun m h1 h2 => ?_) a W (rep.le (by (simp only [setn, List.nil_append, List.cons_append, leF, leH_nil, leH_cons, leF_nil, lk, scp, scpL, scpO, resF, resH, resO, resV, resVL, nth, Nat.reduceBEq, Nat.reduceLT, decide_true, decide_false, List.length, List.length_cons, List.length_nil, Nat.reduceAdd, Bool.and_self, Bool.and_true, and_true, true_and, numF] <;> try simp)) (by (simp only [setn, List.nil_append, List.cons_append, leF, leH_nil, leH_cons, leF_nil, lk, scp, scpL, scpO, resF, resH, resO, resV, resVL, nth, Nat.reduceBEq, Nat.reduceLT, decide_true, decide_false, List.length, List.length_cons, List.length_nil, Nat.reduceAdd, Bool.and_self, Bool.and_true, and_true, true_and, numF] <;> try simp)))⟩
            have h3 := habs m h1 h2
            have h4 := hnb m h1 h2
            rw [hbf] at h4
            have : ¬ m < 0 := fun k => by simpa using h4.2 k
            omega
        · have hbt : b = true := by cases b <;> simp_all
          refine fun a W rep => out n ⟨by omega, by omega⟩ (fun m h1 h2 => ?_) a W (rep.le (by (simp only [setn, List.nil_append, List.cons_append, leF, leH_nil, leH_cons, leF_nil, lk, scp, scpL, scpO, resF, resH, resO, resV, resVL, nth, Nat.reduceBEq, Nat.reduceLT, decide_true, decide_false, List.length, List.length_cons, List.length_nil, Nat.reduceAdd, Bool.and_self, Bool.and_true, and_true, true_and, numF] <;> try simp)) (by (simp only [setn, List.nil_append, List.cons_append, leF, leH_nil, leH_cons, leF_nil, lk, scp, scpL, scpO, resF, resH, resO, resV, resVL, nth, Nat.reduceBEq, Nat.reduceLT, decide_true, decide_false, List.length, List.length_cons, List.length_nil, Nat.reduceAdd, Bool.and_self, Bool.and_true, and_true, true_and, numF] <;> try simp)))
          have h3 := habs m h1 h2
          have h4 := (hnb m h1 h2).1 hbt
          omega
  refine ⟨fun h0 => ?_, fun h0 => ?_⟩
  · cases s with
    | nil => simp [size_str] at h0
    | cons c r =>
      refine ⟨by omega, c, rfl, fun e => ?_, fun e => ?_⟩
      · have hc : c = 45 := by have := eq_of_beq e; exact UInt8.toNat_inj.1 (by show c.toNat = 45; omega)
        rw [e]
        exact key true 1 _ (by simp) (by simp [hc]) (fun m h64 hm => Il.start_neg h64.1 h64.2 hm (by simp [hc])) fun a W rep => rep.le (by (simp only [setn, List.nil_append, List.cons_append, leF, leH_nil, leH_cons, leF_nil, lk, scp, scpL, scpO, resF, resH, resO, resV, resVL, nth, Nat.reduceBEq, Nat.reduceLT, decide_true, decide_false, List.length, List.length_cons, List.length_nil, Nat.reduceAdd, Bool.and_self, Bool.and_true, and_true, true_and, numF] <;> try simp)) (by (simp only [setn, List.nil_append, List.cons_append, leF, leH_nil, leH_cons, leF_nil, lk, scp, scpL, scpO, resF, resH, resO, resV, resVL, nth, Nat.reduceBEq, Nat.reduceLT, decide_true, decide_false, List.length, List.length_cons, List.length_nil, Nat.reduceAdd, Bool.and_self, Bool.and_true, and_true, true_and, numF] <;> try simp))
      · have hc : c ≠ 45 := by intro hc; rw [hc] at e; simp at e
        rw [e]
        exact key false 0 _ (by simp) (by simp [hc]) (fun m h64 hm => Il.start_pos h64.1 h64.2 hm (by simp [hc])) fun a W rep => rep.le (by (simp only [setn, List.nil_append, List.cons_append, leF, leH_nil, leH_cons, leF_nil, lk, scp, scpL, scpO, resF, resH, resO, resV, resVL, nth, Nat.reduceBEq, Nat.reduceLT, decide_true, decide_false, List.length, List.length_cons, List.length_nil, Nat.reduceAdd, Bool.and_self, Bool.and_true, and_true, true_and, numF] <;> try simp)) (by (simp only [setn, List.nil_append, List.cons_append, leF, leH_nil, leH_cons, leF_nil, lk, scp, scpL, scpO, resF, resH, resO, resV, resVL, nth, Nat.reduceBEq, Nat.reduceLT, decide_true, decide_false, List.length, List.length_cons, List.length_nil, Nat.reduceAdd, Bool.and_self, Bool.and_true, and_true, true_and, numF] <;> try simp))
  · cases s with
    | cons c r => simp [size_str] at h0
    | nil => exact key false 0 _ (by simp) (by simp) (fun m h64 hm => absurd rfl (Il.head_neg hm).2) fun a W rep => (rep_swap 5 (y := .val (.bool false)) rep (x := .bf) rfl (fun v h => by simpa [Is] using h)).le (by (simp only [setn, List.nil_append, List.cons_append, leF, leH_nil, leH_cons, leF_nil, lk, scp, scpL, scpO, resF, resH, resO, resV, resVL, nth, Nat.reduceBEq, Nat.reduceLT, decide_true, decide_false, List.length, List.length_cons, List.length_nil, Nat.reduceAdd, Bool.and_self, Bool.and_true, and_true, true_and, numF] <;> try simp)) (by (simp only [setn, List.nil_append, List.cons_append, leF, leH_nil, leH_cons, leF_nil, lk, scp, scpL, scpO, resF, resH, resO, resV, resVL, nth, Nat.reduceBEq, Nat.reduceLT, decide_true, decide_false, List.length, List.length_cons, List.length_nil, Nat.reduceAdd, Bool.and_self, Bool.and_true, and_true, true_and, numF] <;> try simp))
end Go.Proofs.YtpoopljpodkdcaaDoor
