/- graph.Behind. -/
import Derived.Test.YtbkpiljencaoeaaGrB1
import Derived.Test.YtbkpiljencaoeaaGrM1
import Derived.Test.YtbkpiljencaoeaaGrCode
set_option linter.unusedSimpArgs false
set_option linter.unusedVariables false
set_option linter.unnecessarySimpa false
namespace Go.Proofs.Ytbkpiljencaoeaa
open Go Go.Sx Go.Gr
set_option maxRecDepth 100000
theorem behind26c {b : World} {N nt0 : Nat} {st mk0 : List Nat} {W : World} (n : Nat) (l : List Ed) (gm gg : Nat) (z : List (Int × NHd)) (hz : z.map (·.1) = keysR l []) (hok : okG n l)
  (hW : HeapOk ⟨b, N, st, nt0, mk0⟩ (grO gm gg n l z ++ famZ (nxU l) z) W) :
  CallsV Try.prog 26 [.pointer (some ⟨gg, 0, none⟩)] W fun v W' => ∃ B bc gs, v = .slice B n bc ∧ HeapOk ⟨b, N, st, nt0, mk0⟩ ((grO gm gg n l z ++ famZ (nxU l) z) ++ (.own 38 0 1 B n bc (tabV gs n n) :: tabF 4 gs (bhB l) n n)) W' := by
 refine (behind26 n l gm gg z hz hok hW).mono ?_
 rintro v W' ⟨B, bc, gs, hv, h⟩
 refine ⟨B, bc, gs, hv, ?_⟩
 rw [List.append_assoc] at h ⊢
 refine h.fam (fun e he => ?_) (fun e he => ?_) ?_
 ·simp only [grO, List.mem_cons, List.not_mem_nil, or_false] at he
  rcases he with rfl | rfl <;> rfl
 ·rcases List.mem_append.1 he with h1 | h1
  ·simp only [List.mem_singleton] at h1; subst h1; rfl
  ·rcases List.mem_append.1 h1 with h2 | h2
   ·exact tabF_shut _ _ _ _ _ e h2
   ·exact famZ_shut _ _ e h2
 ·rw [← List.append_assoc]; exact List.perm_append_comm
theorem tab_of {E : Env} {H : List SO} {W : World} {T U : TypeId} {gs : Nat → Nat} {M : Nat → Nat → Bool} {r n ver c : Nat} {A : Option Addr} (h : HeapOk E H W) (h1 : SO.own U ver 1 A r c (tabV gs r n) ∈ H) (h2 : ∀ e ∈ tabF T gs M r n, e ∈ H) : TabAt W A gs M r n := by
 obtain ⟨i, hi⟩ := List.getElem?_of_mem h1
 refine ⟨h.rowAt' (i := i) (by rw [nth_eq]; exact hi), fun a ha => ?_⟩
 obtain ⟨j, hj⟩ := List.getElem?_of_mem (h2 _ (tabF_mem ha))
 exact h.rowAt' (i := j) (by rw [nth_eq]; exact hj)
theorem behind12 (A : Option Addr) (c : Nat) (n : Int) (l : List Ed) (w : World) (hA : RowAt w A (cellsD l)) :
  CallsV Try.prog 12 [.int .i64 n, .slice A l.length c] w fun v w' => ((¬ okG n l ∧ v = .tuple #[.slice none 0 0, .int .i64 2]) ∨
   (okG n l ∧ ∃ B bc gs, v = .tuple #[.slice B n.toNat bc, .int .i64 0] ∧ TabAt w' B gs (bhB l) n.toNat n.toNat)) ∧ Fresh w w' := by
 refine calls_go (keep := K12) (nt := 19) (svs := [.val (.int .i64 n), .val (.slice A l.length c)]) Try.func12 x12 n12 (by simp) (by simp [IsL, Is]) fun R hR => ?_
 (refine Y_go 600 ?_; dsimp only [X12, numF, Nat.reduceAdd, zq9r, zq9q, Y_k, zq4u, zq8p, zq6u, YK, zq8t, zq6q, zq9i, normF, zq6n, Nat.reduceBEq, zq6l, zq6k, zq6m, zq86, zq87, zq9y, t12n3, T12n3, zq8o, zq9j])
 refine call_rule (vs := [.int .i64 n, .slice A l.length c]) rfl (R := fun W v W' => (¬ okG n l ∧ v = .tuple #[.pointer none, .int .i64 2] ∧ Fresh W W') ∨
   (okG n l ∧ ∃ (gm gg : Nat) (z : List (Int × NHd)), z.map (·.1) = keysR l [] ∧ v = .tuple #[.pointer (some ⟨gg, 0, none⟩), .int .i64 0] ∧ HeapOk ⟨w, w.heap.size, [], 19, []⟩ (grO gm gg n l z ++ famZ (nxU l) z) W')) (fun W hW => (made24 A c n l W (hA.keep hW.fresh')).mono ?_) fun W v W' hW hr => ?_
 ·rintro v W' (h | ⟨h1, gm, gg, z, h2, h3, h4⟩)
  ·exact .inl h
  ·refine .inr ⟨h1, gm, gg, z, h2, h3, ?_⟩
   exact (hW.rebase 90 []).2.heap (by
    have e : fps ([] : List SO) = [] := rfl
    rw [e]; exact h4)
 ·rcases hr with ⟨h1, rfl, hf⟩ | ⟨h1, gm, gg, z, h2, rfl, h4⟩
  ·refine ⟨.tup [.val (.pointer none), .val (.int .i64 2)], [], by simp [Is, IsL], HExt.refl _, hW.freshK hf, ?_⟩
   dsimp only [zq8t]
   (refine Y_go 600 ?_; dsimp only [Y_k, zq4u, zq8o, zq6n, Nat.reduceBEq, zq6k, YK, zq8t, zq5j, zq2f, nth, zq2e, zq6l, zq9i, normF, zq6m, zq86, zq87, zq9y, t12n2, T12n2, zq9r, zq9q, zq50, zq8p, zq6q, zq04, zq92, zq9b, zq0i, zq9d, zq9s, zq6h, zq8x, YC, t12n0, T12n0, zq6u, zq89, zq9x, zq9p, t12n1, T12n1, zq9j])
   exact ⟨fun _ => ret_rule (vs := [.slice none 0 0, .int .i64 2]) r12 rfl rfl fun W hW => hR _ _ ⟨.inl ⟨h1, rfl⟩, hW.fresh'⟩, fun h => absurd h (by decide)⟩
  ·refine ⟨.tup [.ptr 1 0, .val (.int .i64 0)], grO gm gg n l z ++ famZ (nxU l) z, by simp [Is, IsL, blk_eq, nth, SO.blk], HExt.app [] _, h4, ?_⟩
   obtain ⟨m, rfl⟩ : ∃ m : Nat, (m : Int) = n := ⟨n.toNat, by have := h1.1; omega⟩
   dsimp only [zq8t, List.cons_append, List.nil_append]
   (refine Y_go 600 ?_; dsimp only [Y_k, zq4u, zq8o, zq6n, Nat.reduceBEq, zq6k, YK, zq8t, zq5j, zq2f, nth, zq2e, zq6l, zq9i, normF, zq6m, zq86, zq87, zq8c, zq9y, t12n2, T12n2, zq9r, zq9q, zq50, zq8p, zq6q, zq04, zq92, zq9b, zq0i, zq9d, zq9s, zq6h, zq8x, YC, t12n0, T12n0, zq6u, zq89, zq9x, zq9p, t12n1, T12n1, zq9j])
   refine ⟨fun h => absurd h (by decide), fun _ => ?_⟩
   refine call_rule (vs := [.pointer (some ⟨gg, 0, none⟩)]) rfl (R := fun W v W' => ∃ B bc gs, v = .slice B m bc ∧ HeapOk ⟨w, w.heap.size, [], 19, []⟩ ((grO gm gg m l z ++ famZ (nxU l) z) ++ (.own 38 0 1 B m bc (tabV gs m m) :: tabF 4 gs (bhB l) m m)) W') (fun W hW => behind26c m l gm gg z h2 h1 hW) fun W v W' hW ⟨B, bc, gs, hv, hW'⟩ => ⟨.val (.slice B m bc), _, by rw [hv]; rfl, HExt.app _ _, hW', ?_⟩
   dsimp only [zq8t, List.cons_append]
   (refine Y_go 600 ?_; dsimp only [Y_k, zq4u, zq8o, zq6n, Nat.reduceBEq, zq6k, YK, zq8t, zq8p, zq6q, zq9i, normF, zq6l, zq8a, zq87, zq8c, zq9x])
   refine ret_rule (vs := [.slice B m bc, .int .i64 0]) r12 rfl rfl fun W hW => hR _ _ ⟨.inr ⟨h1, B, bc, gs, rfl, ?_⟩, hW.fresh'⟩
   exact tab_of hW (T := 4) (U := 38) (ver := 0) (c := bc) (by simp) fun e he => by
    rw [Int.toNat_natCast] at he
    simp only [List.mem_cons, List.mem_append]
    exact .inr (.inr (.inr (.inr he)))
end Go.Proofs.Ytbkpiljencaoeaa
