/- shuntref12.Words, Final. -/
import Derived.Test.YtnedgfkgmdoahaaHsJ8
import Derived.Test.YtnedgfkgmdoahaaHsCodeJ
set_option linter.unusedSimpArgs false
set_option linter.unusedVariables false
set_option linter.unnecessarySimpa false
namespace Go.Proofs.Ytnedgfkgmdoahaa
open Go Go.Sx Go.Hs
set_option maxRecDepth 100000
theorem words44 (A B : Option Addr) (c bc : Nat) (x y : List Int) (w : World) (hA : RowAt w A (x.map uV)) (hB : RowAt w B (y.map uV)) (hl : x.length ≤ 100000) :
  CallsV Try.prog 44 [.slice A x.length c, .slice B y.length bc] w fun v w' => v = .bool (decide (x = y)) ∧ Fresh w w' := by
 refine calls_go (keep := K44) (nt := 26) (svs := [.val (.slice A x.length c), .val (.slice B y.length bc)]) Try.func44 x44 n44 (by simp) (by simp [IsL, Is]) fun R hR => ?_
 (refine Y_go 600 ?_; dsimp only [X44, numF, Nat.reduceAdd, zq9r, zq9q, Y_k, zq4u, zq8p, zq6p, YK, zq8t, zq9i, normF, zq6n, Nat.reduceBEq, zq6l, zq6k, zq6m, zq86, zq8a, zq87, zq9y, t44n7, T44n7, zq8o, zq55, zq0r, zq50, zq04, zq92, zq9b, zq0i, zq9d, zq9s, zq6h, zq8x, YC, t44n0, T44n0, zq89, zq9x, zq9p, t44n6, T44n6, zq6q, zq9t, zq9v])
 refine ⟨fun hne => ?_, fun heq => ?_⟩
 ·refine ret_rule (vs := [.bool false]) r44 rfl rfl fun W hW => hR _ _ ⟨?_, hW.fresh'⟩
  have : ¬ x = y := fun e => by subst e; simp at hne
  rw [decide_eq_false this]; rfl
 have hlen : x.length = y.length := by simp at heq; omega
 refine loop_go (α := Nat) (fun i => i ≤ x.length ∧ x.take i = y.take i) (fun _ => ⟨w, w.heap.size, [], 26, []⟩)
  (fun i => { F := [(0, .val (.slice A x.length c)), (1, .val (.slice B y.length bc)), (5, .val (.int .i64 i))], H := [] }) (fun i => x.length - i) (fun _ => rfl) ?start ?round
 case start =>
  intro q W rep
  exact ⟨0, ⟨Nat.zero_le _, rfl⟩, rep.le (by (simp only [setn, List.nil_append, List.cons_append, leF, leH_nil, leH_cons, leF_nil, lk, scp, scpL, scpO, resF, resH, resO, resV, resVL, nth, Nat.reduceBEq, Nat.reduceLT, decide_true, decide_false, List.length, List.length_cons, List.length_nil, Nat.reduceAdd, Bool.and_self, Bool.and_true, and_true, true_and, numF] <;> try simp)) (by (simp only [setn, List.nil_append, List.cons_append, leF, leH_nil, leH_cons, leF_nil, lk, scp, scpL, scpO, resF, resH, resO, resV, resVL, nth, Nat.reduceBEq, Nat.reduceLT, decide_true, decide_false, List.length, List.length_cons, List.length_nil, Nat.reduceAdd, Bool.and_self, Bool.and_true, and_true, true_and, numF] <;> try simp))⟩
 case round =>
  rintro i ⟨hi, hio⟩ I again
  have hi : i ≤ x.length := hi
  have hio : x.take i = y.take i := hio
  (refine Y_go 600 ?_; dsimp only [zq9y, t44n4, T44n4, zq9r, zq9q, Y_k, zq4u, zq8o, zq6n, Nat.reduceBEq, zq6l, zq6k, YK, zq8t, zq55, zq0r, zq50, zq04, zq92, zq9b, zq0i, zq9e, zq9i, normF, zq6m, zq86, zq87, zq9s, zq6h, zq8x, YC, zq9p, t44n3, T44n3, zq9t, zq58, zq06, zq0w, zq5c, zq1p, zq1c, List.nil_append, zq1b, zq18, zq96, zq9d, zq89, t44n1, T44n1, zq8p, zq6p, zq8a, zq9x, zqa1, t44n2, T44n2, zq4w, zq6q, zq0e, zqa2, zq9u, popTo, zq6i, YP, t44n5, T44n5, zq6o])
  refine ⟨fun hlt => ?_, fun hge => ?_⟩
  ·have hlt : i < x.length := by have := of_decide_eq_true hlt; omega
   have hlt2 : i < y.length := by omega
   have ca : CellAt ⟨w, w.heap.size, [], 26, []⟩ A ((i : Int).toNat * 1) (.int .u64 (x.getD i 0)) := hA.cell (by rw [Int.toNat_natCast, Nat.mul_one]; exact uV_get hlt)
   have cb : CellAt ⟨w, w.heap.size, [], 26, []⟩ B ((i : Int).toNat * 1) (.int .u64 (y.getD i 0)) := hB.cell (by rw [Int.toNat_natCast, Nat.mul_one]; exact uV_get hlt2)
   have hx : x[i]? = some (x.getD i 0) := by rw [List.getD_eq_getElem?_getD, List.getElem?_eq_getElem hlt]; rfl
   have hy : y[i]? = some (y.getD i 0) := by rw [List.getD_eq_getElem?_getD, List.getElem?_eq_getElem hlt2]; rfl
   have hadd : ArOk .add .i64 (i : Int) 1 ((i + 1 : Nat) : Int) := ArOk.to (by omega) (by omega) (by omega)
   refine ⟨⟨by omega, by omega, hA.isSome (j := i) (by simpa using hlt)⟩, _, ca, ⟨by omega, by omega, hB.isSome (j := i) (by simpa using hlt2)⟩, _, cb, fun hne => ?_, fun heq => ⟨_, hadd, lend_rule fun q W rep => again (i + 1) ⟨hlt, ?_⟩ (by show x.length - (i + 1) < x.length - i; omega) q W (rep.le (by (simp only [setn, List.nil_append, List.cons_append, leF, leH_nil, leH_cons, leF_nil, lk, scp, scpL, scpO, resF, resH, resO, resV, resVL, nth, Nat.reduceBEq, Nat.reduceLT, decide_true, decide_false, List.length, List.length_cons, List.length_nil, Nat.reduceAdd, Bool.and_self, Bool.and_true, and_true, true_and, numF] <;> try simp)) (by (simp only [setn, List.nil_append, List.cons_append, leF, leH_nil, leH_cons, leF_nil, lk, scp, scpL, scpO, resF, resH, resO, resV, resVL, nth, Nat.reduceBEq, Nat.reduceLT, decide_true, decide_false, List.length, List.length_cons, List.length_nil, Nat.reduceAdd, Bool.and_self, Bool.and_true, and_true, true_and, numF] <;> try simp)))⟩⟩
   ·refine ret_rule (vs := [.bool false]) r44 rfl rfl fun W hW => hR _ _ ⟨?_, hW.fresh'⟩
    have : ¬ x = y := fun e => by subst e; simp at hne
    rw [decide_eq_false this]; rfl
   ·have e : x.getD i 0 = y.getD i 0 := by simpa using heq
    rw [List.take_add_one, List.take_add_one, hio, hx, hy, e]
  ·have hil : i = x.length := by have := of_decide_eq_false hge; omega
   subst hil
   refine ret_rule (vs := [.bool true]) r44 rfl rfl fun W hW => hR _ _ ⟨?_, hW.fresh'⟩
   have : x = y := by rw [List.take_length] at hio; rw [hio, hlen, List.take_length]
   rw [decide_eq_true this]; rfl
end Go.Proofs.Ytnedgfkgmdoahaa
namespace Go.Proofs.Ytnedgfkgmdoahaa
open Go Go.Sx Go.Hs
set_option maxRecDepth 100000
def finD (h : List Ev) (l : List At) (first : List Int) (n : Nat) : List Int := (List.range n).map fun a : Nat => wordTo h l first (a : Nat) h.length
theorem finD_succ (h : List Ev) (l : List At) (first : List Int) (n : Nat) : finD h l first (n + 1) = finD h l first n ++ [wordTo h l first (n : Nat) h.length] := by
 unfold finD; rw [List.range_succ, List.map_append]; rfl
theorem finD_len (h : List Ev) (l : List At) (first : List Int) (n : Nat) : (finD h l first n).length = n := by unfold finD; simp
theorem reffinal43 (A A' : Option Addr) (c c' : Nat) (h : List Ev) (first : List Int) (ws : Int) (w : World) (hA : RowAt w A (cellsE h)) (hF : RowAt w A' (first.map uV)) (hl : h.length ≤ 1000) (hfl : first.length ≤ 100000) (hm : mayL h = true) (hls : ∀ x ∈ splitR h, x.stores.length ≤ 1000) :
  CallsV Try.prog 43 [.slice A h.length c, .slice A' first.length c', .int .i64 ws] w fun v w' => (((ws < 0 ∨ ws > 512) ∧ v = .tuple #[.slice none 0 0, .int .i64 120]) ∨ (¬ ws < 0 ∧ ¬ ws > 512 ∧ ∃ S sc, v = .tuple #[.slice S ws.toNat sc, .int .i64 0] ∧ World.ownsB w' w.heap.size 63 1 (.slice S ws.toNat sc) ws.toNat ((finD h (splitR h) first ws.toNat).map uV))) ∧ Fresh w w' := by
 refine calls_go (keep := K43) (nt := 39) (svs := [.val (.slice A h.length c), .val (.slice A' first.length c'), .val (.int .i64 ws)]) Try.func43 x43 n43 (by simp) (by simp [IsL, Is]) fun R hR => ?_
 (refine Y_go 600 ?_; dsimp only [X43, numF, Nat.reduceAdd, zq9r, zq9q, Y_k, zq4u, zq8p, zq6u, YK, zq8t, zq6q, zq9i, normF, zq6n, Nat.reduceBEq, zq6l, zq6k, zq6m, zq86, zq87, zq9y, t43n8, T43n8, zq8o, zq50, zq04, zq92, zq9b, zq0i, zq9e, Y_gk, zq6e, YS, zq6a, zq4v, zq6o, zq0b, zq89, zq9s, zq6f, YC, t43n0, T43n0, zq9x, YR, zq6c, zq9g, zq0c, zq6h, zq8x, zq9p, t43n7, T43n7, zq9j])
 refine ⟨fun hw => ?_, fun hw => ⟨fun hw2 => ?_, fun hw2 => ?_⟩⟩
 ·exact ret_rule (vs := [.slice none 0 0, .int .i64 120]) r43 rfl rfl fun W hW => hR _ _ ⟨.inl ⟨.inl (of_decide_eq_true hw), rfl⟩, hW.fresh'⟩
 ·exact ret_rule (vs := [.slice none 0 0, .int .i64 120]) r43 rfl rfl fun W hW => hR _ _ ⟨.inl ⟨.inr (of_decide_eq_true hw2), rfl⟩, hW.fresh'⟩
 have hw := of_decide_eq_false hw
 have hw2 := of_decide_eq_false hw2
 refine call_base (vs := [.slice A h.length c]) rfl (R := fun W v w' => ∃ (z : List (At × Hd)) (B D : Option Addr) (bc dc : Nat), z.map (·.1) = splitR h ∧ v = .tuple #[.slice B z.length bc, .slice D z.length dc] ∧ World.ownsB w' W.heap.size 90 11 (.slice B z.length bc) z.length (cellsTs z) ∧ AttAt w' z ∧ Fresh W w') (fun W hW => (refsplit35 A c h W (hA.keep hW.fresh') hl hm).mono fun v w' ⟨z, B, D, bc, dc, h1, h2, h3, h4, h5, h6, _⟩ => ⟨z, B, D, bc, dc, h1, h2, h3, h5, h6⟩) (fun _ _ _ hr => by obtain ⟨_, _, _, _, _, _, _, _, _, hf⟩ := hr; exact hf) fun W v W' hW hr ov => ?_
 obtain ⟨z, B, D, bc, dc, hz, hv, ho, hat, hf⟩ := hr
 refine ⟨.tup [.val (.slice B z.length bc), .val (.slice D z.length dc)], by rw [hv]; simp [Is, IsL], ?_⟩
 simp only [putF] at ov ⊢
 have hB : RowAt W' B (cellsTs z) := RowAt.of_own ho rfl
 have hA1 : RowAt W' A (cellsE h) := hA.keep (hW.fresh'.tr hf)
 have hF1 : RowAt W' A' (first.map uV) := hF.keep (hW.fresh'.tr hf)
 have hzl : z.length ≤ 1000 := by
  have := congrArg List.length hz
  have h2 := begs_len h h.length
  unfold splitR at this
  simp only [List.length_map] at this
  omega
 have hp : ∀ p ∈ z, p.1.stores.length ≤ 1000 := fun p hp => hls p.1 (by rw [← hz]; exact List.mem_map_of_mem (f := fun x : At × Hd => x.1) hp)
 have hfin := fun S sc W2 hf2 ho2 => hR (.tuple #[.slice S ws.toNat sc, .int .i64 0]) W2 ⟨.inr ⟨hw, hw2, S, sc, rfl, ho2⟩, hf2⟩
 rw [← hz] at hfin
 obtain ⟨N, hN⟩ : ∃ N : Nat, ws = N := ⟨ws.toNat, by omega⟩
 subst hN
 simp only [Int.toNat_natCast] at hfin
 (refine Y_go 600 ?_; dsimp only [Y_k, zq4u, zq8o, zq6n, Nat.reduceBEq, zq6k, YK, zq8t, zq5j, zq2f, nth, zq2e, zq6l, zq9i, normF, zq6m, zq86, zq8a, zq87, zq9y, t43n6, T43n6, zq9r, zq9q, zq8p, zq6u, t43n5, T43n5, zq6q, zq9t, zq9v])
 refine loop_go (α := Nat × Option Addr × Nat) (fun q => q.1 ≤ N) (fun _ => ⟨W', W'.heap.size, [], 39, []⟩)
  (fun q => { F := [(0, .val (.slice A h.length c)), (1, .val (.slice A' first.length c')), (2, .val (.int .i64 N)), (8, .val (.slice B z.length bc)), (10, .own 0 0), (11, .val (.int .i64 q.1))], H := [.own 63 0 1 q.2.1 (finD h (z.map (·.1)) first q.1).length q.2.2 ((finD h (z.map (·.1)) first q.1).map uV)] }) (fun q => N - q.1) (fun _ => rfl) ?start ?round
 case start =>
  intro a W rep
  exact ⟨(0, none, 0), Nat.zero_le _, (rep.adopt 10 63 1 rfl).le (by (simp only [setn, List.nil_append, List.cons_append, leF, leH_nil, leH_cons, leF_nil, lk, scp, scpL, scpO, resF, resH, resO, resV, resVL, nth, Nat.reduceBEq, Nat.reduceLT, decide_true, decide_false, List.length, List.length_cons, List.length_nil, Nat.reduceAdd, Bool.and_self, Bool.and_true, and_true, true_and, numF] <;> try simp)) (by (simp only [setn, List.nil_append, List.cons_append, leF, leH_nil, leH_cons, leF_nil, lk, scp, scpL, scpO, resF, resH, resO, resV, resVL, nth, Nat.reduceBEq, Nat.reduceLT, decide_true, decide_false, List.length, List.length_cons, List.length_nil, Nat.reduceAdd, Bool.and_self, Bool.and_true, and_true, true_and, numF] <;> try simp); exact ⟨rfl, rfl⟩)⟩
 case round =>
  rintro ⟨n, oA, oc⟩ hn I again
  have hn : n ≤ N := hn
  simp only
  (refine Y_go 600 ?_; dsimp only [zq9y, t43n3, T43n3, zq9r, zq9q, Y_k, zq4u, zq8o, zq6n, Nat.reduceBEq, zq6l, zq6k, YK, zq8t, zq50, zq04, zq92, zq9b, zq0i, zq9e, zq9i, normF, zq6m, zq87, zq86, zq8f, zq9s, zq6h, zq8x, YC, zq9p, t43n2, T43n2, zq9t, zq55, zq0r, zq9j, zq9u, popTo, zq6i, YP, t43n4, T43n4, zq8p, zq6q, zq8a, zq9x])
  refine ⟨fun hlt => ?_, fun hge => ?_⟩
  ·have hlt : n < N := by have := of_decide_eq_true hlt; omega
   have hadd : ArOk .add .i64 (n : Int) 1 ((n + 1 : Nat) : Int) := ArOk.to (by omega) (by omega) (by omega)
   refine call_val (R := fun v => v = .int .u64 (wordTo h (z.map (·.1)) first (n : Nat) h.length)) (vs := [.slice A h.length c, .slice B z.length bc, .slice A' first.length c', .int .i64 n, .int .i64 h.length]) rfl (fun W hW => word65 A B A' c bc c' h z first n h.length W (hA1.keep hW.fresh') (hB.keep hW.fresh') (fun p hp => ⟨(hat p hp).1.keep hW.fresh', (hat p hp).2.keep hW.fresh'⟩) (hF1.keep hW.fresh') (by omega) (Nat.le_refl _) hl hzl hp hfl) fun v hv => ⟨.val (.int .u64 (wordTo h (z.map (·.1)) first (n : Nat) h.length)), by rw [hv]; simp [Is], ?_⟩
   (refine Y_go 600 ?_; dsimp only [zq8t, Y_k, zq5h, List.map, zq6q, repL, List.cons_append, List.nil_append, zq23, Nat.reduceMul, zq8o, zq6n, Nat.reduceBEq, zq6k, zq7u, zq73, zq0a, dropL, takeL, zq20, splice, setn, zq24, zq26, List.length_cons, List.length_nil, Nat.reduceAdd, YK, zq5l, zq6l, zq2w, nth, zq09, zq08, zq2s, zq9b, zq2r, zq2n, zq2j, zq2k, zq8l, zq8m, zq8k, denL, den, zq2l, zq2h, zq4u, zq9i, normF, zq6m, zq89, zq86, zq87, zq8f, zqa1, zq9y, t43n1, T43n1, zq9q, zq4w, zq8p, zq04, zq92, zq0e, zqa2])
   refine fun g => ⟨⟨by rw [finD_len]; simp only [maxLen]; omega, by rw [finD_len]; omega⟩, fun B1 d1 => ⟨_, hadd, lend_rule fun q W rep => again (n + 1, B1, d1) hlt (by show N - (n + 1) < N - n; omega) q W (rep.res.le (by (simp only [setn, List.nil_append, List.cons_append, leF, leH_nil, leH_cons, leF_nil, lk, scp, scpL, scpO, resF, resH, resO, resV, resVL, nth, Nat.reduceBEq, Nat.reduceLT, decide_true, decide_false, List.length, List.length_cons, List.length_nil, Nat.reduceAdd, Bool.and_self, Bool.and_true, and_true, true_and, numF] <;> try simp)) ?_)⟩⟩
   have e1 : (finD h (z.map (·.1)) first (n + 1)).length = (finD h (z.map (·.1)) first n).length + 1 := by rw [finD_len, finD_len]
   have e2 : (finD h (z.map (·.1)) first (n + 1)).map uV = (finD h (z.map (·.1)) first n).map uV ++ [.int .u64 (wordTo h (z.map (·.1)) first (n : Nat) h.length)] := by rw [finD_succ, List.map_append]; rfl
   simp only [e1, e2]
   (simp only [setn, List.nil_append, List.cons_append, leF, leH_nil, leH_cons, leF_nil, lk, scp, scpL, scpO, resF, resH, resO, resV, resVL, nth, Nat.reduceBEq, Nat.reduceLT, decide_true, decide_false, List.length, List.length_cons, List.length_nil, Nat.reduceAdd, Bool.and_self, Bool.and_true, and_true, true_and, numF] <;> try simp)
  ·have hil : n = N := by have := of_decide_eq_false hge; omega
   subst hil
   refine ret_rule (vs := [.slice oA (finD h (z.map (·.1)) first n).length oc, .int .i64 0]) r43 rfl rfl fun W hW => ?_
   have k := ov.heap hW
   have ho2 := k.owns (i := 0) rfl
   rw [finD_len] at ho2 ⊢
   exact hfin oA oc W k.fresh' ho2
end Go.Proofs.Ytnedgfkgmdoahaa
