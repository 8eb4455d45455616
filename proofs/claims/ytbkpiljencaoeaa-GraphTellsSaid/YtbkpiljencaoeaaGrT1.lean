/- graph.committed (1): whom it leaves out; slices.IndexFunc and slices.DeleteFunc at attempts. -/
import Derived.Test.YtbkpiljencaoeaaGHsW5
import Derived.Test.YtbkpiljencaoeaaHsRef
import Derived.Test.YtbkpiljencaoeaaSxGhost
import Derived.Test.YtbkpiljencaoeaaGrCodeT
set_option linter.unusedSimpArgs false
set_option linter.unusedVariables false
set_option linter.unnecessarySimpa false
namespace Go.Proofs.Ytbkpiljencaoeaa
open Go Go.Sx Go.Hs
set_option maxRecDepth 100000
def svT (x : At) (h : Hd) : SV := .agg [.val (.int .i64 x.core), .val (.int .i64 x.block), .val (.int .i64 x.tr), .val (.int .i64 x.lane), .val (.int .i64 x.frm), .val (.int .i64 x.point), .val (.int .i64 x.to), .val (.slice h.lA x.loads.length h.lc), .val (.slice h.sA x.stores.length h.sc), .val (.bool x.com), .val (.int .i64 x.code)]
def valT (x : At) (h : Hd) : Value := .agg #[.int .i64 x.core, .int .i64 x.block, .int .i64 x.tr, .int .i64 x.lane, .int .i64 x.frm, .int .i64 x.point, .int .i64 x.to, .slice h.lA x.loads.length h.lc, .slice h.sA x.stores.length h.sc, .bool x.com, .int .i64 x.code]
theorem out51 (x : At) (h : Hd) (w : World) : CallsV Try.prog 51 [valT x h] w fun v w' => v = .bool (outB x) ∧ Fresh w w' := by
 refine calls_go (keep := K51) (nt := 11) (svs := [svT x h]) Try.func51 x51 n51 (by simp) (by simp [IsL, Is, svT, valT]) fun R hR => ?_
 unfold svT
 (refine Y_go 600 ?_; dsimp only [X51, numF, Nat.reduceAdd, zq9r, zq9q, Y_k, zq5f, zq8o, zq6n, Nat.reduceBEq, zq6k, zq7t, List.length_cons, List.length_nil, zq8l, zq73, zq8m, zq77, zq7g, zq8k, zq0a, zq1z, List.nil_append, YK, zq8t, zq4u, zq8p, zq6p, zq9i, normF, zq6l, zq8a, zq8c, zq88, zq9y, t51n0, T51n0, zq5a, zq14, zq5c, zq1o, nth, zq1k, dropL, takeL, zq19, zq18, zq53, zq0o, Y_gk, zq6e, YS, zq6a, zq4v, zq6o, zq0b, zq89, zq9x, YR, zq6c, zq50, zq6q, zq04, zq92, zq9b, zq0i, zq9e, zq0c, zq87])
 refine fun g => ⟨fun hc => ?_, fun hc => ?_⟩
 ·exact ret_rule (vs := [.bool true]) r51 rfl rfl fun W hW => hR _ _ ⟨by unfold outB; rw [hc]; rfl, hW.fresh'⟩
 ·exact ret_rule (vs := [.bool (decide (x.point < 0))]) r51 rfl rfl fun W hW => hR _ _ ⟨by unfold outB; rw [hc]; rfl, hW.fresh'⟩
theorem ok51 : fnOk Try.prog 51 = true := by kernel_rfl
def outN (z : List (At × Hd)) : Nat := z.findIdx fun p => outB p.1
theorem outN_at {z : List (At × Hd)} {i : Nat} (hi : i < z.length) (h : ∀ p ∈ z.take i, outB p.1 = false) (hp : outB z[i].1 = true) : outN z = i := by
 unfold outN
 rw [List.findIdx_eq hi]
 refine ⟨hp, fun j hj => ?_⟩
 have hjl : j < z.length := by omega
 exact h z[j] (List.mem_of_getElem? (i := j) (by rw [List.getElem?_take, if_pos hj, List.getElem?_eq_getElem hjl]))
theorem outN_none {z : List (At × Hd)} (h : ∀ p ∈ z, outB p.1 = false) : outN z = z.length := List.findIdx_eq_length_of_false h
theorem index68 {B : Option Addr} {bc : Nat} (z : List (At × Hd)) (w : World) (hB : RowAt w B (cellsTs z)) (hl : z.length ≤ 1000000) :
  CallsV Try.prog 68 [.slice B z.length bc, .func (.func 51) #[] #[]] w fun v w' => v = .int .i64 (if outN z < z.length then ((outN z : Nat) : Int) else -1) ∧ Fresh w w' := by
 refine calls_go (keep := K68) (nt := 19) (svs := [.val (.slice B z.length bc), .val (.func (.func 51) #[] #[])]) Try.func68 x68 n68 (by simp) (by simp [IsL, Is]) fun R hR => ?_
 (refine Y_go 600 ?_; dsimp only [X68, numF, Nat.reduceAdd, zq9r, zq9q, Y_k, zq4u, zq8p, zq6q, YK, zq8t, zq9i, normF, zq6n, Nat.reduceBEq, zq6l, zq6k, zq6m, zq86, zq87, zq9y, t68n6, T68n6, zq8o, zq55, zq0r, zq9t, zq9v])
 refine loop_go (α := Nat) (fun i => i ≤ z.length ∧ ∀ p ∈ z.take i, outB p.1 = false) (fun _ => ⟨w, w.heap.size, [], 19, []⟩)
  (fun i => { F := [(0, .val (.slice B z.length bc)), (1, .val (.func (.func 51) #[] #[])), (7, .val (.int .i64 z.length)), (8, .val (.int .i64 i))], H := [] }) (fun i => z.length - i) (fun _ => rfl) ?start ?round
 case start =>
  intro a' W rep
  refine ⟨0, ⟨Nat.zero_le _, by simp⟩, rep.le ?_ ?_⟩ <;> (simp only [setn, List.nil_append, List.cons_append, leF, leH_nil, leH_cons, leF_nil, lk, scp, scpL, scpO, resF, resH, resO, resV, resVL, nth, Nat.reduceBEq, Nat.reduceLT, decide_true, decide_false, List.length, List.length_cons, List.length_nil, Nat.reduceAdd, Bool.and_self, Bool.and_true, and_true, true_and, numF] <;> try simp)
 case round =>
  rintro i ⟨hi, hn⟩ I again
  (refine Y_go 600 ?_; dsimp only [zq9y, t68n4, T68n4, zq9r, zq9q, Y_k, zq50, zq8o, zq6n, Nat.reduceBEq, zq6l, zq6k, zq04, zq92, zq9b, zq0i, zq9e, YK, zq8t, zq9i, normF, zq6m, zq86, zq87, t68n3, T68n3, zq9s, zq6h, zq8x, YC, zq9p, t68n2, T68n2, zq9t, zq4u, zq89, t68n1, T68n1, zq58, zq06, zq0w, zq5c, zq1p, zq1c, List.nil_append, List.cons_append, zq1g, zq1d, zq1b, zq17, zq9k, zq9u, popTo, zq6i, YP, t68n5, T68n5, zq8p, zq6q, zq8a, zq9x])
  refine ⟨fun h => ?_, fun h => ?_⟩
  ·have hlt : i < z.length := by have := of_decide_eq_true h; omega
   have cl : ∀ k v, (cellsT z[i].1 z[i].2)[k]? = some v → CellAt ⟨w, w.heap.size, [], 19, []⟩ B ((i : Int).toNat * 11 + k) v := by
    intro k v hk
    have := (List.getElem?_eq_some_iff.1 hk).1
    rw [Int.toNat_natCast]
    exact hB.cell (by rw [cellsTs_get z hlt this]; exact hk)
   have htk : z.take (i + 1) = z.take i ++ [z[i]] := by rw [List.take_add_one, List.getElem?_eq_getElem hlt]; rfl
   have hat := fun hp => outN_at hlt hn hp
   have sB : B.isSome = true := hB.isSome (j := i * 11) (by rw [cellsTs_len]; omega)
   generalize z[i] = p at cl htk hat
   obtain ⟨x, hd⟩ := p
   refine ⟨⟨by omega, by omega, sB⟩, _, cl 0 _ rfl, _, cl 1 _ rfl, _, cl 2 _ rfl, _, cl 3 _ rfl, _, cl 4 _ rfl, _, cl 5 _ rfl, _, cl 6 _ rfl, ?_⟩
   refine ⟨_, _, _, cl 7 _ rfl, _, _, _, cl 8 _ rfl, _, cl 9 _ rfl, _, cl 10 _ rfl, ?_⟩
   refine callv_val (R := fun v => v = .bool (outB x)) (f := 51) (fst := []) (caps := []) (vs := [valT x hd]) rfl ok51 rfl (fun W hW => out51 x hd W) fun v hv => ⟨.val (.bool (outB x)), by rw [hv]; simp [Is], ?_⟩
   dsimp only [zq8t]
   (refine Y_go 600 ?_; dsimp only [zq9i, normF, zq6n, Nat.reduceBEq, zq6l, zq6k, zq6m, zq87, zq89, zq86, zq9s, zq8o, zq6h, zq8x, YC, zq9y, t68n0, T68n0, zq9r, zq9q, Y_k, zq4u, YK, zq8t, zq9x, zq9p, zqa1, zq4w, zq8p, zq6q, zq04, zq92, zq9b, zq0e, zq8a, zqa2])
   refine ⟨fun hb => ?_, fun hb => ⟨((i + 1 : Nat) : Int), ArOk.to (by omega) (by omega) (by omega), lend_rule fun a' W rep => again (i + 1) ⟨hlt, fun p hp => ?_⟩ (by omega) a' W (rep.le (by (simp only [setn, List.nil_append, List.cons_append, leF, leH_nil, leH_cons, leF_nil, lk, scp, scpL, scpO, resF, resH, resO, resV, resVL, nth, Nat.reduceBEq, Nat.reduceLT, decide_true, decide_false, List.length, List.length_cons, List.length_nil, Nat.reduceAdd, Bool.and_self, Bool.and_true, and_true, true_and, numF] <;> try simp)) (by (simp only [setn, List.nil_append, List.cons_append, leF, leH_nil, leH_cons, leF_nil, lk, scp, scpL, scpO, resF, resH, resO, resV, resVL, nth, Nat.reduceBEq, Nat.reduceLT, decide_true, decide_false, List.length, List.length_cons, List.length_nil, Nat.reduceAdd, Bool.and_self, Bool.and_true, and_true, true_and, numF] <;> try simp)))⟩⟩
   ·refine ret_rule (vs := [.int .i64 i]) r68 rfl rfl fun W hW => hR _ _ ⟨?_, hW.fresh'⟩
    rw [hat hb, if_pos hlt]; rfl
   ·rw [htk] at hp
    rcases List.mem_append.1 hp with h | h
    ·exact hn p h
    ·simp only [List.mem_singleton] at h; subst h; exact hb
  ·have hil : i = z.length := by have := of_decide_eq_false h; omega
   subst hil
   rw [List.take_of_length_le (Nat.le_refl _)] at hn
   refine ret_rule (vs := [.int .i64 (-1)]) r68 rfl rfl fun W hW => hR _ _ ⟨?_, hW.fresh'⟩
   rw [outN_none hn, if_neg (by omega)]; rfl
end Go.Proofs.Ytbkpiljencaoeaa
