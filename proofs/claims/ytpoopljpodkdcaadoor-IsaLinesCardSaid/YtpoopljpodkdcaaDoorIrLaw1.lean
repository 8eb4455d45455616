/- The walk: a number's digits (shuntref10.Digits). -/
import Derived.Test.YtpoopljpodkdcaaDoorIlCode
import Derived.Test.YtpoopljpodkdcaaDoorIlLaw1
import Derived.Test.YtpoopljpodkdcaaDoorDigPlain
set_option linter.unusedSimpArgs false
set_option linter.unusedVariables false
set_option linter.unnecessarySimpa false
namespace Go.Proofs.YtpoopljpodkdcaaDoor
open Go Go.Sx Go.Isa Go.Dig
set_option maxRecDepth 100000

structure Ops (rest : Int) (s : List UInt8) (k : Nat) : Prop where
  rem : DivOk .rem .i64 rest 10 (rest.tmod 10)
  neg : rest.tmod 10 < 0 → ConvOk .i64 (0 - rest.tmod 10) ((rest.natAbs % 10 : Nat) : Int)
  nn : ¬ rest.tmod 10 < 0 → rest.tmod 10 = ((rest.natAbs % 10 : Nat) : Int)
  add : ArOk .add .i64 48 ((rest.natAbs % 10 : Nat) : Int) ((48 + rest.natAbs % 10 : Nat) : Int)
  u8 : ConvOk .u8 ((48 + rest.natAbs % 10 : Nat) : Int) ((48 + rest.natAbs % 10 : Nat) : Int)
  byt : [Value.int .u8 ((48 + rest.natAbs % 10 : Nat) : Int)] = bytesV ⟨⟨[UInt8.ofNat (48 + rest.natAbs % 10)]⟩⟩
  quo : DivOk .quo .i64 rest 10 (rest.tdiv 10)
  one : ArOk .add .i64 (k : Int) 1 ((k + 1 : Nat) : Int)
  sz : (⟨⟨[UInt8.ofNat (48 + rest.natAbs % 10)]⟩⟩ : ByteArray).size + (⟨⟨s⟩⟩ : ByteArray).size ≤ 9223372036854775807
  sz1 : (⟨⟨[UInt8.ofNat 45]⟩⟩ : ByteArray).size + (⟨⟨s⟩⟩ : ByteArray).size ≤ 9223372036854775807
theorem ops {n rest : Int} {s : List UInt8} {k : Nat} (h : At n rest s k) : Ops rest s k := by
  have hl := last_eq rest
  have hf := h.fits
  have hlen := h.len
  have hk := h.k20
  have hm : rest.natAbs % 10 < 10 := Nat.mod_lt _ (by decide)
  unfold last at hl
  refine ⟨⟨by omega, rfl⟩, fun hn => ?_, fun hn => ?_, ?_, ?_, ?_, ⟨by omega, ?_⟩, ?_, ?_, ?_⟩
  · rw [if_pos hn] at hl
    have := ConvOk.i64 (a := 0 - rest.tmod 10) (by omega) (by omega)
    rw [show ((rest.natAbs % 10 : Nat) : Int) = 0 - rest.tmod 10 by omega]; exact this
  · rw [if_neg hn] at hl; exact hl
  · have := ArOk.add64 (a := 48) (b := ((rest.natAbs % 10 : Nat) : Int)) (by omega) (by omega)
    rw [show ((48 + rest.natAbs % 10 : Nat) : Int) = 48 + ((rest.natAbs % 10 : Nat) : Int) by omega]; exact this
  · exact ConvOk.u8 (by omega) (by omega)
  · have e : (UInt8.ofNat (48 + rest.natAbs % 10)).toNat = 48 + rest.natAbs % 10 := by
      rw [UInt8.toNat_ofNat']; omega
    show [Value.int .u8 _] = [Value.int .u8 ((UInt8.ofNat (48 + rest.natAbs % 10)).toNat : Int)]
    rw [e]
  · show rest.tdiv 10 = IntKind.i64.wrap (rest.tdiv 10)
    have := natAbs_tdiv10 rest
    rw [IntKind.wrap_i64]; omega
  · have := ArOk.add64 (a := (k : Int)) (b := 1) (by omega) (by omega)
    rw [show ((k + 1 : Nat) : Int) = (k : Int) + 1 by omega]; exact this
  · rw [size_str, size_str]; simp; omega
  · rw [size_str, size_str]; simp; omega
theorem digits42 (n : Int) (w : World) (h0 : -9223372036854775808 ≤ n) (h1 : n ≤ 9223372036854775807) : CallsV Tryd.prog 42 [.int .i64 n] w fun v w' => v = .string ⟨⟨Lib.itoa n⟩⟩ ∧ Fresh w w' := by
  refine calls_go (keep := K42) (nt := 40) (svs := [.val (.int .i64 n)]) Tryd.func42 x42 n42 (by simp) (by simp [IsL, Is]) fun R hR => ?_
  (refine Y_go 600 ?_; dsimp only [zq00, zq01, zq02, zq03, zq04, zq05, zq06, zq07, zq08, zq09, zq0a, zq0b, zq0c, zq0d, zq0e, zq0f, zq0g, zq0h, zq0i, zq0j, zq0k, zq0l, zq0m, zq0n, zq0o, zq0p, zq0q, zq0r, zq0s, zq0t, zq0u, zq0v, zq0w, zq0x, zq0y, zq0z, zq10, zq11, zq12, zq13, zq14, zq15, zq16, zq17, zq18, zq19, zq1a, zq1b, zq1c, zq1d, zq1e, zq1f, zq1g, zq1h, zq1i, zq1j, zq1k, zq1l, zq1m, zq1n, zq1o, zq1p, zq1q, zq1r, zq1s, zq1t, zq1u, zq1v, zq1w, zq1x, zq1y, zq1z, zq20, zq21, zq22, zq23, zq24, zq25, zq26, zq27, zq28, zq29, zq2a, zq2b, zq2c, zq2d, zq2e, zq2f, zq2g, zq2h, zq2i, zq2j, zq2k, zq2l, zq2m, zq2n, zq2o, zq2p, zq2q, zq2r, zq2s, zq2t, zq2u, zq2v, zq2w, zq2x, zq2y, zq2z, zq30, zq31, zq32, zq33, zq34, zq35, zq36, zq37, zq38, zq39, zq3a, zq3b, zq3c, zq3d, zq3e, zq3f, zq3g, zq3h, zq3i, zq3j, zq3k, zq3l, zq3m, zq3n, zq3o, zq3p, zq3q, zq3r, zq3s, zq3t, zq3u, zq3v, zq3w, zq3x, zq3y, zq3z, zq40, zq41, zq42, zq43, zq44, zq45, zq46, zq47, zq48, zq49, zq4a, zq4b, zq4c, zq4d, zq4e, zq4f, zq4g, zq4h, zq4i, zq4j, zq4k, zq4l, zq4m, zq4n, zq4o, zq4p, zq4q, zq4r, zq4s, zq4t, zq4u, zq4v, zq4w, zq4x, zq4y, zq4z, zq50, zq51, zq52, zq53, zq54, zq55, zq56, zq57, zq58, zq59, zq5a, zq5b, zq5c, zq5d, zq5e, zq5f, zq5g, zq5h, zq5i, zq5j, zq5k, zq5l, zq5m, zq5n, zq5o, zq5p, zq5q, zq5r, zq5s, zq5t, zq5u, zq5v, zq5w, zq5x, zq5y, zq5z, zq60, zq61, zq62, zq63, zq64, zq65, zq66, zq67, zq68, zq69, zq6a, zq6b, zq6c, zq6d, zq6e, zq6f, zq6g, zq6h, zq6i, zq6j, zq6k, zq6l, zq6m, zq6n, zq6o, zq6p, zq6q, zq6r, zq6s, zq6t, zq6u, zq6v, zq6w, zq6x, zq6y, zq6z, zq70, zq71, zq72, zq73, zq74, zq75, zq76, zq77, zq78, zq79, zq7a, zq7b, zq7c, zq7d, zq7e, zq7f, zq7g, zq7h, zq7i, zq7j, zq7k, zq7l, zq7m, zq7n, zq7o, zq7p, zq7q, zq7r, zq7s, zq7t, zq7u, zq7v, zq7w, zq7x, zq7y, zq7z, zq80, zq81, zq82, zq83, zq84, zq85, zq86, zq87, zq88, zq89, zq8a, zq8b, zq8c, zq8d, zq8e, zq8f, zq8g, zq8h, zq8i, zq8j, zq8k, zq8l, zq8m, zq8n, zq8o, zq8p, zq8q, zq8r, zq8s, zq8t, zq8u, zq8v, zq8w, zq8x, zq8y, zq8z, zq90, zq91, zq92, zq93, zq94, zq95, zq96, zq97, zq98, zq99, Y_k, Y_gk, zq9a, zq9b, zq9c, zq9d, zq9e, zq9f, zq9g, zq9h, zq9i, zq9j, zq9k, zq9l, zq9m, zq9n, zq9o, zq9p, zq9q, zq9r, zq9s, zq9t, zq9u, YK, YR, YS, YG, YC, YP, normF, popTo, nth, setn, evL, takeL, dropL, splice, repL, denL, den, blk, eqSV, List.map, List.length, List.cons_append, List.nil_append, List.length_cons, List.length_nil, Int.reduceToNat, Nat.reduceBEq, Nat.reduceAdd, Nat.reduceMul, Nat.reduceSub, beq_self_eq_true, Nat.zero_add, Nat.add_zero, numF, X42, t42n0, T42n0, t42n1, T42n1, t42n2, T42n2, t42n3, T42n3, t42n4, T42n4, t42n5, T42n5, t42n6, T42n6, t42n7, T42n7, t42n8, T42n8, t42n9, T42n9, t42n10, T42n10, t42n11, T42n11, t42n12, T42n12])
  refine loop_go (α := Int × List UInt8 × Nat) (fun a => At n a.1 a.2.1 a.2.2) (fun _ => ⟨w, w.heap.size, [], 40, []⟩)
    (fun a => { F := [(0, .val (.int .i64 n)), (3, .val (.string ⟨⟨a.2.1⟩⟩)), (4, .val (.int .i64 a.1)), (5, .val (.int .i64 a.2.2))], H := [] }) (fun a => 20 - a.2.2) (fun _ => rfl) ?start ?round
  case start =>
    intro a W rep
    exact ⟨(n, [], 0), Dig.start h0 h1, rep.le (by (simp only [setn, List.nil_append, List.cons_append, leF, leH_nil, leH_cons, leF_nil, lk, scp, scpL, scpO, resF, resH, resO, resV, resVL, nth, Nat.reduceBEq, Nat.reduceLT, decide_true, decide_false, List.length, List.length_cons, List.length_nil, Nat.reduceAdd, Bool.and_self, Bool.and_true, and_true, true_and, numF] <;> try simp)) (by (simp only [setn, List.nil_append, List.cons_append, leF, leH_nil, leH_cons, leF_nil, lk, scp, scpL, scpO, resF, resH, resO, resV, resVL, nth, Nat.reduceBEq, Nat.reduceLT, decide_true, decide_false, List.length, List.length_cons, List.length_nil, Nat.reduceAdd, Bool.and_self, Bool.and_true, and_true, true_and, numF] <;> try simp))⟩
  case round =>
    rintro ⟨rest, s, k⟩ hA I hI
    (refine Y_go 600 ?_; dsimp only [zq00, zq01, zq02, zq03, zq04, zq05, zq06, zq07, zq08, zq09, zq0a, zq0b, zq0c, zq0d, zq0e, zq0f, zq0g, zq0h, zq0i, zq0j, zq0k, zq0l, zq0m, zq0n, zq0o, zq0p, zq0q, zq0r, zq0s, zq0t, zq0u, zq0v, zq0w, zq0x, zq0y, zq0z, zq10, zq11, zq12, zq13, zq14, zq15, zq16, zq17, zq18, zq19, zq1a, zq1b, zq1c, zq1d, zq1e, zq1f, zq1g, zq1h, zq1i, zq1j, zq1k, zq1l, zq1m, zq1n, zq1o, zq1p, zq1q, zq1r, zq1s, zq1t, zq1u, zq1v, zq1w, zq1x, zq1y, zq1z, zq20, zq21, zq22, zq23, zq24, zq25, zq26, zq27, zq28, zq29, zq2a, zq2b, zq2c, zq2d, zq2e, zq2f, zq2g, zq2h, zq2i, zq2j, zq2k, zq2l, zq2m, zq2n, zq2o, zq2p, zq2q, zq2r, zq2s, zq2t, zq2u, zq2v, zq2w, zq2x, zq2y, zq2z, zq30, zq31, zq32, zq33, zq34, zq35, zq36, zq37, zq38, zq39, zq3a, zq3b, zq3c, zq3d, zq3e, zq3f, zq3g, zq3h, zq3i, zq3j, zq3k, zq3l, zq3m, zq3n, zq3o, zq3p, zq3q, zq3r, zq3s, zq3t, zq3u, zq3v, zq3w, zq3x, zq3y, zq3z, zq40, zq41, zq42, zq43, zq44, zq45, zq46, zq47, zq48, zq49, zq4a, zq4b, zq4c, zq4d, zq4e, zq4f, zq4g, zq4h, zq4i, zq4j, zq4k, zq4l, zq4m, zq4n, zq4o, zq4p, zq4q, zq4r, zq4s, zq4t, zq4u, zq4v, zq4w, zq4x, zq4y, zq4z, zq50, zq51, zq52, zq53, zq54, zq55, zq56, zq57, zq58, zq59, zq5a, zq5b, zq5c, zq5d, zq5e, zq5f, zq5g, zq5h, zq5i, zq5j, zq5k, zq5l, zq5m, zq5n, zq5o, zq5p, zq5q, zq5r, zq5s, zq5t, zq5u, zq5v, zq5w, zq5x, zq5y, zq5z, zq60, zq61, zq62, zq63, zq64, zq65, zq66, zq67, zq68, zq69, zq6a, zq6b, zq6c, zq6d, zq6e, zq6f, zq6g, zq6h, zq6i, zq6j, zq6k, zq6l, zq6m, zq6n, zq6o, zq6p, zq6q, zq6r, zq6s, zq6t, zq6u, zq6v, zq6w, zq6x, zq6y, zq6z, zq70, zq71, zq72, zq73, zq74, zq75, zq76, zq77, zq78, zq79, zq7a, zq7b, zq7c, zq7d, zq7e, zq7f, zq7g, zq7h, zq7i, zq7j, zq7k, zq7l, zq7m, zq7n, zq7o, zq7p, zq7q, zq7r, zq7s, zq7t, zq7u, zq7v, zq7w, zq7x, zq7y, zq7z, zq80, zq81, zq82, zq83, zq84, zq85, zq86, zq87, zq88, zq89, zq8a, zq8b, zq8c, zq8d, zq8e, zq8f, zq8g, zq8h, zq8i, zq8j, zq8k, zq8l, zq8m, zq8n, zq8o, zq8p, zq8q, zq8r, zq8s, zq8t, zq8u, zq8v, zq8w, zq8x, zq8y, zq8z, zq90, zq91, zq92, zq93, zq94, zq95, zq96, zq97, zq98, zq99, Y_k, Y_gk, zq9a, zq9b, zq9c, zq9d, zq9e, zq9f, zq9g, zq9h, zq9i, zq9j, zq9k, zq9l, zq9m, zq9n, zq9o, zq9p, zq9q, zq9r, zq9s, zq9t, zq9u, YK, YR, YS, YG, YC, YP, normF, popTo, nth, setn, evL, takeL, dropL, splice, repL, denL, den, blk, eqSV, List.map, List.length, List.cons_append, List.nil_append, List.length_cons, List.length_nil, Int.reduceToNat, Nat.reduceBEq, Nat.reduceAdd, Nat.reduceMul, Nat.reduceSub, beq_self_eq_true, Nat.zero_add, Nat.add_zero, t42n0, T42n0, t42n1, T42n1, t42n2, T42n2, t42n3, T42n3, t42n4, T42n4, t42n5, T42n5, t42n6, T42n6, t42n7, T42n7, t42n8, T42n8, t42n9, T42n9, t42n10, T42n10, t42n11, T42n11, t42n12, T42n12])
    have o := ops hA
    have hk20 := hA.k20
    have fin : ¬ (k < 20 ∧ (k = 0 ∨ rest ≠ 0)) → Lib.itoa n = if n < 0 then 45 :: s else s := fun hg => by rw [itoa_eq, Dig.stop hA hg]
    have neg : ∀ F H, Lib.itoa n = (if n < 0 then 45 :: s else s) → n < 0 → denAll H F [2] = some [.string ((⟨⟨[UInt8.ofNat 45]⟩⟩ : ByteArray) ++ ⟨⟨s⟩⟩)] → RetG (cxOf Tryd.prog Tryd.f42 K42 T42 R) ⟨w, w.heap.size, [], 40, []⟩ { F := F, H := H } := fun F H hi hn hd =>
      ret_rule r42 rfl hd fun W hW => hR _ _ ⟨by rw [hi, if_pos hn, cat_str]; rfl, hW.fresh'⟩
    have pos : ∀ F H, Lib.itoa n = (if n < 0 then 45 :: s else s) → ¬ n < 0 → denAll H F [2] = some [.string ⟨⟨s⟩⟩] → RetG (cxOf Tryd.prog Tryd.f42 K42 T42 R) ⟨w, w.heap.size, [], 40, []⟩ { F := F, H := H } := fun F H hi hn hd =>
      ret_rule r42 rfl hd fun W hW => hR _ _ ⟨by rw [hi, if_neg hn]; rfl, hW.fresh'⟩
    have fr : ∀ (g : Nat) (x y z : SV) (W : World) (a : Act), (k < 20 ∧ (k = 0 ∨ rest ≠ 0)) → Rep ⟨w, w.heap.size, [], 40, []⟩ { F := [(0, SV.val (Value.int IntKind.i64 n)), (3, SV.val (Value.string ((⟨⟨[UInt8.ofNat (48 + rest.natAbs % 10)]⟩⟩ : ByteArray) ++ ⟨⟨s⟩⟩))), (4, SV.val (Value.int IntKind.i64 (rest.tdiv 10))), (5, SV.val (Value.int IntKind.i64 ((k + 1 : Nat) : Int))), (6, x), (17, y), (23, z)], H := [SO.cells g 5 [SV.val (Value.int IntKind.u8 ((48 + rest.natAbs % 10 : Nat) : Int))]] } a W → I a W := fun g x y z W a hg rep =>
      hI (rest.tdiv 10, UInt8.ofNat (48 + rest.natAbs % 10) :: s, k + 1) (Dig.step hA hg.1 hg.2) (by dsimp only; omega) a W (by
        rw [cat_str] at rep
        exact rep.le (by (simp only [setn, List.nil_append, List.cons_append, leF, leH_nil, leH_cons, leF_nil, lk, scp, scpL, scpO, resF, resH, resO, resV, resVL, nth, Nat.reduceBEq, Nat.reduceLT, decide_true, decide_false, List.length, List.length_cons, List.length_nil, Nat.reduceAdd, Bool.and_self, Bool.and_true, and_true, true_and, numF] <;> try simp)) (by (simp only [setn, List.nil_append, List.cons_append, leF, leH_nil, leH_cons, leF_nil, lk, scp, scpL, scpO, resF, resH, resO, resV, resVL, nth, Nat.reduceBEq, Nat.reduceLT, decide_true, decide_false, List.length, List.length_cons, List.length_nil, Nat.reduceAdd, Bool.and_self, Bool.and_true, and_true, true_and, numF] <;> try simp)))
    refine ⟨fun hk => ⟨fun h0 => ⟨_, o.rem, fun hn => ⟨_, o.neg (of_decide_eq_true hn), _, o.add, _, o.u8, fun g => ⟨_, o.byt, o.sz, _, o.quo, _, o.one, lend_rule fun a W rep => fr g _ _ _ W a ⟨by have := of_decide_eq_true hk; omega, .inl (by simpa using h0)⟩ rep⟩⟩, fun hn => ?c1⟩, fun h0 => ⟨fun hr => ⟨_, o.rem, fun hn => ⟨_, o.neg (of_decide_eq_true hn), _, o.add, _, o.u8, fun g => ⟨_, o.byt, o.sz, _, o.quo, _, o.one, lend_rule fun a W rep => fr g _ _ _ W a ⟨by have := of_decide_eq_true hk; omega, .inr (by simpa using hr)⟩ rep⟩⟩, fun hn => ?c2⟩, fun hr => ⟨fun hn => ⟨o.sz1, neg _ _ (fin fun hg => ?c3) (of_decide_eq_true hn) rfl⟩, fun hn => pos _ _ (fin fun hg => ?c4) (of_decide_eq_false hn) rfl⟩⟩⟩, fun hk => ⟨fun hn => ⟨o.sz1, neg _ _ (fin fun hg => ?c5) (of_decide_eq_true hn) rfl⟩, fun hn => pos _ _ (fin fun hg => ?c6) (of_decide_eq_false hn) rfl⟩⟩
    case c1 =>
      rw [o.nn (of_decide_eq_false hn)]
      exact ⟨_, o.add, _, o.u8, fun g => ⟨_, o.byt, o.sz, _, o.quo, _, o.one, lend_rule fun a W rep => fr g _ _ _ W a ⟨by have := of_decide_eq_true hk; omega, .inl (by simpa using h0)⟩ rep⟩⟩
    case c2 =>
      rw [o.nn (of_decide_eq_false hn)]
      exact ⟨_, o.add, _, o.u8, fun g => ⟨_, o.byt, o.sz, _, o.quo, _, o.one, lend_rule fun a W rep => fr g _ _ _ W a ⟨by have := of_decide_eq_true hk; omega, .inr (by simpa using hr)⟩ rep⟩⟩
    case c3 => (have h0' : (k : Int) ≠ 0 := by simpa using h0); (have hr' : rest = 0 := by simpa using hr); omega
    case c4 => (have h0' : (k : Int) ≠ 0 := by simpa using h0); (have hr' : rest = 0 := by simpa using hr); omega
    case c5 => have := of_decide_eq_false hk; omega
    case c6 => have := of_decide_eq_false hk; omega
end Go.Proofs.YtpoopljpodkdcaaDoor
