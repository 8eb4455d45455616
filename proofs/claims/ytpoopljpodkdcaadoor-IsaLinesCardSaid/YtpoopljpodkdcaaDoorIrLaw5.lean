/- The walk: a line's words (shuntref10.words). -/
import Derived.Test.YtpoopljpodkdcaaDoorIrCode
import Derived.Test.YtpoopljpodkdcaaDoorIrPlain
import Derived.Test.YtpoopljpodkdcaaDoorIlLaw1
set_option linter.unusedSimpArgs false
set_option linter.unusedVariables false
set_option linter.unnecessarySimpa false
namespace Go.Proofs.YtpoopljpodkdcaaDoor
open Go Go.Sx Go.Isa
set_option maxRecDepth 100000

structure WI where
  i : Nat
  A : Option Addr
  c : Nat
  out : List (List UInt8)
  wd : List UInt8
def strV (p : List UInt8) : Value := .string ⟨⟨p⟩⟩
structure WOk (s : List UInt8) (x : WI) : Prop where
  le : x.i ≤ s.length
  lo : x.out.length ≤ x.i
  lw : x.wd.length ≤ x.i
  eq : Il.spl [] s = x.out ++ Il.spl x.wd (s.drop x.i)
theorem words38 (s : List UInt8) (w : World) (hs : s.length ≤ 1000) : CallsV Tryd.prog 38 [.string ⟨⟨s⟩⟩] w fun v w' => w'.ownsRow w.heap.size 9 1 v (Il.spl [] s).length ((Il.spl [] s).map strV) ∧ Fresh w w' := by
  refine calls_go (keep := K38) (nt := 31) (svs := [.val (.string ⟨⟨s⟩⟩)]) Tryd.func38 x38 n38 (by simp) (by simp [IsL, Is]) fun R hR => ?_
  (refine Y_go 600 ?_; dsimp only [zq00, zq01, zq02, zq03, zq04, zq05, zq06, zq07, zq08, zq09, zq0a, zq0b, zq0c, zq0d, zq0e, zq0f, zq0g, zq0h, zq0i, zq0j, zq0k, zq0l, zq0m, zq0n, zq0o, zq0p, zq0q, zq0r, zq0s, zq0t, zq0u, zq0v, zq0w, zq0x, zq0y, zq0z, zq10, zq11, zq12, zq13, zq14, zq15, zq16, zq17, zq18, zq19, zq1a, zq1b, zq1c, zq1d, zq1e, zq1f, zq1g, zq1h, zq1i, zq1j, zq1k, zq1l, zq1m, zq1n, zq1o, zq1p, zq1q, zq1r, zq1s, zq1t, zq1u, zq1v, zq1w, zq1x, zq1y, zq1z, zq20, zq21, zq22, zq23, zq24, zq25, zq26, zq27, zq28, zq29, zq2a, zq2b, zq2c, zq2d, zq2e, zq2f, zq2g, zq2h, zq2i, zq2j, zq2k, zq2l, zq2m, zq2n, zq2o, zq2p, zq2q, zq2r, zq2s, zq2t, zq2u, zq2v, zq2w, zq2x, zq2y, zq2z, zq30, zq31, zq32, zq33, zq34, zq35, zq36, zq37, zq38, zq39, zq3a, zq3b, zq3c, zq3d, zq3e, zq3f, zq3g, zq3h, zq3i, zq3j, zq3k, zq3l, zq3m, zq3n, zq3o, zq3p, zq3q, zq3r, zq3s, zq3t, zq3u, zq3v, zq3w, zq3x, zq3y, zq3z, zq40, zq41, zq42, zq43, zq44, zq45, zq46, zq47, zq48, zq49, zq4a, zq4b, zq4c, zq4d, zq4e, zq4f, zq4g, zq4h, zq4i, zq4j, zq4k, zq4l, zq4m, zq4n, zq4o, zq4p, zq4q, zq4r, zq4s, zq4t, zq4u, zq4v, zq4w, zq4x, zq4y, zq4z, zq50, zq51, zq52, zq53, zq54, zq55, zq56, zq57, zq58, zq59, zq5a, zq5b, zq5c, zq5d, zq5e, zq5f, zq5g, zq5h, zq5i, zq5j, zq5k, zq5l, zq5m, zq5n, zq5o, zq5p, zq5q, zq5r, zq5s, zq5t, zq5u, zq5v, zq5w, zq5x, zq5y, zq5z, zq60, zq61, zq62, zq63, zq64, zq65, zq66, zq67, zq68, zq69, zq6a, zq6b, zq6c, zq6d, zq6e, zq6f, zq6g, zq6h, zq6i, zq6j, zq6k, zq6l, zq6m, zq6n, zq6o, zq6p, zq6q, zq6r, zq6s, zq6t, zq6u, zq6v, zq6w, zq6x, zq6y, zq6z, zq70, zq71, zq72, zq73, zq74, zq75, zq76, zq77, zq78, zq79, zq7a, zq7b, zq7c, zq7d, zq7e, zq7f, zq7g, zq7h, zq7i, zq7j, zq7k, zq7l, zq7m, zq7n, zq7o, zq7p, zq7q, zq7r, zq7s, zq7t, zq7u, zq7v, zq7w, zq7x, zq7y, zq7z, zq80, zq81, zq82, zq83, zq84, zq85, zq86, zq87, zq88, zq89, zq8a, zq8b, zq8c, zq8d, zq8e, zq8f, zq8g, zq8h, zq8i, zq8j, zq8k, zq8l, zq8m, zq8n, zq8o, zq8p, zq8q, zq8r, zq8s, zq8t, zq8u, zq8v, zq8w, zq8x, zq8y, zq8z, zq90, zq91, zq92, zq93, zq94, zq95, zq96, zq97, zq98, zq99, Y_k, Y_gk, zq9a, zq9b, zq9c, zq9d, zq9e, zq9f, zq9g, zq9h, zq9i, zq9j, zq9k, zq9l, zq9m, zq9n, zq9o, zq9p, zq9q, zq9r, zq9s, zq9t, zq9u, YK, YR, YS, YG, YC, YP, normF, popTo, nth, setn, evL, takeL, dropL, splice, repL, denL, den, blk, eqSV, List.map, List.length, List.cons_append, List.nil_append, List.length_cons, List.length_nil, Int.reduceToNat, Nat.reduceBEq, Nat.reduceAdd, Nat.reduceMul, Nat.reduceSub, beq_self_eq_true, Nat.zero_add, Nat.add_zero, numF, X38, t38n0, T38n0, t38n1, T38n1, t38n2, T38n2, t38n3, T38n3, t38n4, T38n4, t38n5, T38n5, t38n6, T38n6, t38n7, T38n7, t38n8, T38n8])
  refine loop_go (α := WI) (fun x => WOk s x) (fun _ => ⟨w, w.heap.size, [], 31, []⟩)
      (fun x => { F := [(0, .val (.string ⟨⟨s⟩⟩)), (3, .own 0 0), (4, .val (.string ⟨⟨x.wd⟩⟩)), (5, .val (.int .i64 x.i))], H := [.own 9 0 1 x.A x.out.length x.c (x.out.map strV)] }) (fun x => s.length - x.i) (fun _ => rfl) ?start ?round
  case start =>
    intro a W rep
    refine ⟨⟨0, none, 0, [], []⟩, ⟨Nat.zero_le _, Nat.zero_le _, Nat.zero_le _, by simp⟩, (rep.adopt 3 9 1 rfl).le ?_ ?_⟩ <;> (simp only [setn, List.nil_append, List.cons_append, leF, leH_nil, leH_cons, leF_nil, lk, scp, scpL, scpO, resF, resH, resO, resV, resVL, nth, Nat.reduceBEq, Nat.reduceLT, decide_true, decide_false, List.length, List.length_cons, List.length_nil, Nat.reduceAdd, Bool.and_self, Bool.and_true, and_true, true_and, numF] <;> try simp)
  case round =>
    rintro ⟨i, A, c, out, wd⟩ hx I hI
    obtain ⟨hi, ho, hw, he⟩ := hx
    dsimp only at hi ho hw he
    (refine Y_go 600 ?_; dsimp only [zq00, zq01, zq02, zq03, zq04, zq05, zq06, zq07, zq08, zq09, zq0a, zq0b, zq0c, zq0d, zq0e, zq0f, zq0g, zq0h, zq0i, zq0j, zq0k, zq0l, zq0m, zq0n, zq0o, zq0p, zq0q, zq0r, zq0s, zq0t, zq0u, zq0v, zq0w, zq0x, zq0y, zq0z, zq10, zq11, zq12, zq13, zq14, zq15, zq16, zq17, zq18, zq19, zq1a, zq1b, zq1c, zq1d, zq1e, zq1f, zq1g, zq1h, zq1i, zq1j, zq1k, zq1l, zq1m, zq1n, zq1o, zq1p, zq1q, zq1r, zq1s, zq1t, zq1u, zq1v, zq1w, zq1x, zq1y, zq1z, zq20, zq21, zq22, zq23, zq24, zq25, zq26, zq27, zq28, zq29, zq2a, zq2b, zq2c, zq2d, zq2e, zq2f, zq2g, zq2h, zq2i, zq2j, zq2k, zq2l, zq2m, zq2n, zq2o, zq2p, zq2q, zq2r, zq2s, zq2t, zq2u, zq2v, zq2w, zq2x, zq2y, zq2z, zq30, zq31, zq32, zq33, zq34, zq35, zq36, zq37, zq38, zq39, zq3a, zq3b, zq3c, zq3d, zq3e, zq3f, zq3g, zq3h, zq3i, zq3j, zq3k, zq3l, zq3m, zq3n, zq3o, zq3p, zq3q, zq3r, zq3s, zq3t, zq3u, zq3v, zq3w, zq3x, zq3y, zq3z, zq40, zq41, zq42, zq43, zq44, zq45, zq46, zq47, zq48, zq49, zq4a, zq4b, zq4c, zq4d, zq4e, zq4f, zq4g, zq4h, zq4i, zq4j, zq4k, zq4l, zq4m, zq4n, zq4o, zq4p, zq4q, zq4r, zq4s, zq4t, zq4u, zq4v, zq4w, zq4x, zq4y, zq4z, zq50, zq51, zq52, zq53, zq54, zq55, zq56, zq57, zq58, zq59, zq5a, zq5b, zq5c, zq5d, zq5e, zq5f, zq5g, zq5h, zq5i, zq5j, zq5k, zq5l, zq5m, zq5n, zq5o, zq5p, zq5q, zq5r, zq5s, zq5t, zq5u, zq5v, zq5w, zq5x, zq5y, zq5z, zq60, zq61, zq62, zq63, zq64, zq65, zq66, zq67, zq68, zq69, zq6a, zq6b, zq6c, zq6d, zq6e, zq6f, zq6g, zq6h, zq6i, zq6j, zq6k, zq6l, zq6m, zq6n, zq6o, zq6p, zq6q, zq6r, zq6s, zq6t, zq6u, zq6v, zq6w, zq6x, zq6y, zq6z, zq70, zq71, zq72, zq73, zq74, zq75, zq76, zq77, zq78, zq79, zq7a, zq7b, zq7c, zq7d, zq7e, zq7f, zq7g, zq7h, zq7i, zq7j, zq7k, zq7l, zq7m, zq7n, zq7o, zq7p, zq7q, zq7r, zq7s, zq7t, zq7u, zq7v, zq7w, zq7x, zq7y, zq7z, zq80, zq81, zq82, zq83, zq84, zq85, zq86, zq87, zq88, zq89, zq8a, zq8b, zq8c, zq8d, zq8e, zq8f, zq8g, zq8h, zq8i, zq8j, zq8k, zq8l, zq8m, zq8n, zq8o, zq8p, zq8q, zq8r, zq8s, zq8t, zq8u, zq8v, zq8w, zq8x, zq8y, zq8z, zq90, zq91, zq92, zq93, zq94, zq95, zq96, zq97, zq98, zq99, Y_k, Y_gk, zq9a, zq9b, zq9c, zq9d, zq9e, zq9f, zq9g, zq9h, zq9i, zq9j, zq9k, zq9l, zq9m, zq9n, zq9o, zq9p, zq9q, zq9r, zq9s, zq9t, zq9u, YK, YR, YS, YG, YC, YP, normF, popTo, nth, setn, evL, takeL, dropL, splice, repL, denL, den, blk, eqSV, List.map, List.length, List.cons_append, List.nil_append, List.length_cons, List.length_nil, Int.reduceToNat, Nat.reduceBEq, Nat.reduceAdd, Nat.reduceMul, Nat.reduceSub, beq_self_eq_true, Nat.zero_add, Nat.add_zero, t38n0, T38n0, t38n1, T38n1, t38n2, T38n2, t38n3, T38n3, t38n4, T38n4, t38n5, T38n5, t38n6, T38n6, t38n7, T38n7, t38n8, T38n8])
    refine ⟨fun hlt => ?_, fun hge => ?_⟩
    · have hlt : i < s.length := by have := of_decide_eq_true hlt; rw [size_str] at this; omega
      have hget : s[i]? = some s[i] := List.getElem?_eq_getElem hlt
      have hdrop : s.drop i = s[i] :: s.drop (i + 1) := List.drop_eq_getElem_cons hlt
      refine ⟨by omega, s[i], ?_, fun h32 => ?_, fun h32 => ?_⟩
      · show (⟨s⟩ : Array UInt8)[(i : Int).toNat]? = some s[i]
        simp [hlt]
      · have hc : s[i] = 32 := by have := eq_of_beq h32; exact UInt8.toNat_inj.1 (by show s[i].toNat = 32; omega)
        refine fun g => ⟨⟨by simp only [maxLen]; omega, by omega⟩, fun A1 c1 => ⟨_, .add64 (by omega) (by omega), lend_rule fun a W rep => hI ⟨i + 1, A1, c1, out ++ [wd], []⟩ ⟨hlt, by simp; omega, Nat.zero_le _, ?_⟩ (by show s.length - (i + 1) < s.length - i; omega) a W (rep.res.le ?_ ?_)⟩⟩
        · rw [he, hdrop, Il.spl, if_pos hc]; simp
        · (simp only [setn, List.nil_append, List.cons_append, leF, leH_nil, leH_cons, leF_nil, lk, scp, scpL, scpO, resF, resH, resO, resV, resVL, nth, Nat.reduceBEq, Nat.reduceLT, decide_true, decide_false, List.length, List.length_cons, List.length_nil, Nat.reduceAdd, Bool.and_self, Bool.and_true, and_true, true_and, numF] <;> try simp)
        · (simp only [setn, List.nil_append, List.cons_append, leF, leH_nil, leH_cons, leF_nil, lk, scp, scpL, scpO, resF, resH, resO, resV, resVL, nth, Nat.reduceBEq, Nat.reduceLT, decide_true, decide_false, List.length, List.length_cons, List.length_nil, Nat.reduceAdd, Bool.and_self, Bool.and_true, and_true, true_and, numF] <;> try simp)
          simp [strV]
      · have hc : s[i] ≠ 32 := by
          intro hc; rw [hc] at h32; simp at h32
        have hex : (⟨⟨s⟩⟩ : ByteArray).extract (i : Int).toNat ((i + 1 : Nat) : Int).toNat = ⟨⟨[s[i]]⟩⟩ := by
          apply Il.ba_eq
          rw [Lib.extract_data]
          show (s.drop (i : Int).toNat).take (((i + 1 : Nat) : Int).toNat - (i : Int).toNat) = [s[i]]
          rw [show (i : Int).toNat = i by omega, show ((i + 1 : Nat) : Int).toNat - i = 1 by omega, hdrop]; rfl
        refine ⟨((i + 1 : Nat) : Int), .add64 (by omega) (by omega), ⟨by omega, by omega, by rw [size_str]; omega⟩, by rw [hex]; (simp only [cat_str, size_str, List.length_append, List.length_cons, List.length_nil]; omega), ((i + 1 : Nat) : Int), .add64 (by omega) (by omega), lend_rule fun a W rep => hI ⟨i + 1, A, c, out, wd ++ [s[i]]⟩ ⟨hlt, by show out.length ≤ i + 1; omega, by simp; omega, ?_⟩ (by show s.length - (i + 1) < s.length - i; omega) a W ?_⟩
        · rw [he, hdrop, Il.spl, if_neg hc]
        · rw [hex, cat_str] at rep
          exact rep.le (by (simp only [setn, List.nil_append, List.cons_append, leF, leH_nil, leH_cons, leF_nil, lk, scp, scpL, scpO, resF, resH, resO, resV, resVL, nth, Nat.reduceBEq, Nat.reduceLT, decide_true, decide_false, List.length, List.length_cons, List.length_nil, Nat.reduceAdd, Bool.and_self, Bool.and_true, and_true, true_and, numF] <;> try simp)) (by (simp only [setn, List.nil_append, List.cons_append, leF, leH_nil, leH_cons, leF_nil, lk, scp, scpL, scpO, resF, resH, resO, resV, resVL, nth, Nat.reduceBEq, Nat.reduceLT, decide_true, decide_false, List.length, List.length_cons, List.length_nil, Nat.reduceAdd, Bool.and_self, Bool.and_true, and_true, true_and, numF] <;> try simp))
    · have hil : i = s.length := by have := of_decide_eq_false hge; rw [size_str] at this; omega
      subst hil
      rw [List.drop_length] at he
      refine fun g => ⟨⟨by simp only [maxLen]; omega, by omega⟩, fun A1 c1 => ret_rule (vs := [.slice A1 _ c1]) r38 rfl rfl fun W hW => hR _ _ ⟨?_, hW.fresh'⟩⟩
      have h1 := hW.owns (i := 0) rfl
      rw [he]
      show W.ownsRow w.heap.size 9 1 (.slice A1 (out.length + 1) c1) (out ++ [wd]).length ((out ++ [wd]).map strV)
      simpa [strV] using h1
end Go.Proofs.YtpoopljpodkdcaaDoor
