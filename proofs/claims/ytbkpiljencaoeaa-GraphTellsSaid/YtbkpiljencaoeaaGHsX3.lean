/- shuntref12.Split: all attempts, by the document. -/
import Derived.Test.YtbkpiljencaoeaaGHsX2
import Derived.Test.YtbkpiljencaoeaaGHsCodeT
set_option linter.unusedSimpArgs false
set_option linter.unusedVariables false
set_option linter.unnecessarySimpa false
namespace Go.Proofs.Ytbkpiljencaoeaa
open Go Go.Sx Go.Hs
set_option maxRecDepth 100000
def oddV (z : List (At × Hd)) : List Value := z.map fun p => .bool p.1.odd
def AttE (E : Env) (z : List (At × Hd)) : Prop := ∀ p ∈ z, RowE E p.2.lA (cellsPr p.1.loads) ∧ RowE E p.2.sA (cellsPr p.1.stores)
def AttAt (w : World) (z : List (At × Hd)) : Prop := ∀ p ∈ z, RowAt w p.2.lA (cellsPr p.1.loads) ∧ RowAt w p.2.sA (cellsPr p.1.stores)
theorem AttE.over {E E' : Env} {z : List (At × Hd)} (h : AttE E z) (o : Over E E') : AttE E' z := fun p hp => ⟨(h p hp).1.over o, (h p hp).2.over o⟩
theorem AttE.snoc {E : Env} {z : List (At × Hd)} {x : At} {hd : Hd} (h : AttE E z) (h1 : RowE E hd.lA (cellsPr x.loads)) (h2 : RowE E hd.sA (cellsPr x.stores)) : AttE E (z ++ [(x, hd)]) := fun p hp => by
 rcases List.mem_append.1 hp with h3 | h3
 ·exact h p h3
 ·simp only [List.mem_singleton] at h3; subst h3; exact ⟨h1, h2⟩
theorem AttE.at {E : Env} {z : List (At × Hd)} (h : AttE E z) {H : List SO} {W : World} (hW : HeapOk E H W) : AttAt W z := fun p hp => ⟨(h p hp).1.at hW, (h p hp).2.at hW⟩
theorem AttAt.keep {w w' : World} {z : List (At × Hd)} (h : AttAt w z) (k : Fresh w w') : AttAt w' z := fun p hp => ⟨(h p hp).1.keep k, (h p hp).2.keep k⟩
def AttNew (N : Nat) (z : List (At × Hd)) : Prop := ∀ p ∈ z, (∀ a, p.2.lA = some a → N ≤ a.block) ∧ ∀ a, p.2.sA = some a → N ≤ a.block
theorem AttNew.snoc {N : Nat} {z : List (At × Hd)} {x : At} {hd : Hd} (h : AttNew N z) (h1 : ∀ a, hd.lA = some a → N ≤ a.block) (h2 : ∀ a, hd.sA = some a → N ≤ a.block) : AttNew N (z ++ [(x, hd)]) := fun p hp => by
 rcases List.mem_append.1 hp with h3 | h3
 ·exact h p h3
 ·simp only [List.mem_singleton] at h3; subst h3; exact ⟨h1, h2⟩
theorem ownsB_new {w : World} {N : Nat} {t : TypeId} {sz n c : Nat} {A : Option Addr} {xs : List Value} (h : World.ownsB w N t sz (.slice A n c) n xs) : ∀ a, A = some a → N ≤ a.block := by
 intro a ha
 obtain ⟨_, ⟨A', h1, _, h3⟩ | ⟨g, b, cap, cur, h1, h2, _⟩⟩ := h
 ·injection h1 with h1; exact (h3 a (by rw [← h1]; exact ha)).1
 ·injection h1 with h1; rw [ha] at h1; injection h1 with h1; subst h1; exact h2
structure SrI where
 n : Nat
 z : List (At × Hd)
 oA : Option Addr
 oc : Nat
 dA : Option Addr
 dc : Nat
 b : World
 N : Nat
 st : List Nat
theorem refsplit35 (A : Option Addr) (c : Nat) (h : List Ev) (w : World) (hA : RowAt w A (cellsE h)) (hl : h.length ≤ 1000) (hm : mayL h = true) :
  CallsV Try.prog 56 [.slice A h.length c] w fun v w' => ∃ (z : List (At × Hd)) (B D : Option Addr) (bc dc : Nat), z.map (·.1) = splitR h ∧ v = .tuple #[.slice B z.length bc, .slice D z.length dc] ∧ World.ownsB w' w.heap.size 75 11 (.slice B z.length bc) z.length (cellsTs z) ∧ World.ownsB w' w.heap.size 4 1 (.slice D z.length dc) z.length (oddV z) ∧ AttAt w' z ∧ Fresh w w' ∧ AttNew w.heap.size z := by
 refine calls_go (keep := K56) (nt := 37) (svs := [.val (.slice A h.length c)]) Try.func56 x56 n56 (by simp) (by simp [IsL, Is]) fun R hR => ?_
 have hlane : ∀ k, k < h.length → (evA h k).kind = 1 → 1 ≤ (evA h k).lane := by
  intro k hk hkd
  have key : ∀ m, mayTo h (k + 1 + m) = true → may1 h (openR h (evA h k).core k) (evA h k) = true := by
   intro m
   induction m with
   | zero => intro hq; simp only [Nat.add_zero, mayTo, Bool.and_eq_true] at hq; exact hq.2
   | succ m ih => intro hq; refine ih ?_; have : mayTo h (k + 1 + m + 1) = true := hq; simp only [mayTo, Bool.and_eq_true] at this; exact this.1
  have := key (h.length - (k + 1)) (by rw [show k + 1 + (h.length - (k + 1)) = h.length by omega]; exact hm)
  rw [may1_iff] at this
  exact (this.2.2.2.2.2.1 hkd).2.1
 (refine Y_go 600 ?_; dsimp only [X56, numF, Nat.reduceAdd, zq9r, zq9q, Y_k, zq4u, zq8p, zq6u, YK, zq8t, zq9i, normF, zq6n, Nat.reduceBEq, zq6l, zq6k, zq6m, zq86, zq87, zq9y, t56n9, T56n9, t56n8, T56n8, t56n7, T56n7, zq6q, zq9t, zq9v])
 refine loop_go (α := SrI) (fun q => q.n ≤ h.length ∧ q.z.map (·.1) = (begs h q.n).map (fun k => oneTo h k h.length) ∧ Over ⟨w, w.heap.size, [], 37, []⟩ ⟨q.b, q.N, q.st, 37, []⟩ ∧ AttE ⟨q.b, q.N, q.st, 37, []⟩ q.z ∧ AttNew w.heap.size q.z) (fun q => ⟨q.b, q.N, q.st, 37, []⟩)
  (fun q => { F := [(0, .val (.slice A h.length c)), (4, .own 0 0), (5, .own 1 0), (6, .val (.int .i64 q.n))], H := [.own 75 0 11 q.oA q.z.length q.oc (cellsTs q.z), .own 4 0 1 q.dA q.z.length q.dc (oddV q.z)] }) (fun q => h.length - q.n) (fun _ => rfl) ?start ?round
 case start =>
  intro a W rep
  refine ⟨⟨0, [], none, 0, none, 0, w, w.heap.size, []⟩, ⟨Nat.zero_le _, rfl, Over.refl _, fun p hp => by simp at hp, fun p hp => by simp at hp⟩, ?_⟩
  exact ((rep.adopt 4 75 11 rfl).adopt 5 4 1 rfl).le (by (simp only [setn, List.nil_append, List.cons_append, leF, leH_nil, leH_cons, leF_nil, lk, scp, scpL, scpO, resF, resH, resO, resV, resVL, nth, Nat.reduceBEq, Nat.reduceLT, decide_true, decide_false, List.length, List.length_cons, List.length_nil, Nat.reduceAdd, Bool.and_self, Bool.and_true, and_true, true_and, numF] <;> try simp)) (by (simp only [setn, List.nil_append, List.cons_append, leF, leH_nil, leH_cons, leF_nil, lk, scp, scpL, scpO, resF, resH, resO, resV, resVL, nth, Nat.reduceBEq, Nat.reduceLT, decide_true, decide_false, List.length, List.length_cons, List.length_nil, Nat.reduceAdd, Bool.and_self, Bool.and_true, and_true, true_and, numF] <;> try simp); exact ⟨rfl, rfl⟩)
 case round =>
  rintro ⟨n, z, oA, oc, dA, dc, b, N, st⟩ ⟨hn, hz, hov, hat, hnw⟩ I again
  simp only at hn hz hov hat hnw ⊢
  have hzl : z.length ≤ n := by
   have := congrArg List.length hz
   simp only [List.length_map] at this
   rw [this]; exact begs_len h n
  (refine Y_go 600 ?_; dsimp only [zq9y, t56n5, T56n5, zq9r, zq9q, Y_k, zq4u, zq8o, zq6n, Nat.reduceBEq, zq6l, zq6k, YK, zq8t, zq55, zq0r, zq50, zq04, zq92, zq9b, zq0i, zq9e, zq9i, normF, zq6m, zq86, zq87, zq8f, zq9s, zq6h, zq8x, YC, zq9p, t56n4, T56n4, zq9t, zq58, zq06, zq0w, zq5a, zq16, Nat.add_zero, zq5c, zq1p, zq1c, List.nil_append, zq1b, zq18, zq8p, zq6q, zq9c, zq89, t56n2, T56n2, zq9j, zqa1, t56n3, T56n3, zq4w, zq0e, zq8a, zqa2, zq9u, popTo, zq6i, YP, t56n6, T56n6, zq9x])
  refine ⟨fun hlt => ?_, fun hge => ?_⟩
  ·have hlt : n < h.length := by have := of_decide_eq_true hlt; omega
   have hAE : RowE ⟨b, N, st, 37, []⟩ A (cellsE h) := (rowE0 hA 37 []).over hov
   have hsome : A.isSome = true := hA.isSome (j := n * 9) (by rw [cellsE_len]; omega)
   have c0 : CellAt ⟨b, N, st, 37, []⟩ A ((n : Int).toNat * 9) _ := evCell hAE hlt 0 _ rfl
   have hadd : ArOk .add .i64 (n : Int) 1 ((n + 1 : Nat) : Int) := ArOk.to (by omega) (by omega) (by omega)
   have hbs : begs h (n + 1) = if (evA h n).kind = 1 then begs h n ++ [n] else begs h n := rfl
   refine ⟨⟨by omega, by omega, hsome⟩, hsome, _, c0, fun hk => ?_, fun hk => ⟨_, hadd, lend_rule fun a W rep => ?_⟩⟩
   ·have hk : (evA h n).kind = 1 := eq_of_beq hk
    refine call_base (vs := [.slice A h.length c, .int .i64 n]) rfl (R := fun W v w' => ∃ hd : Hd, v = .tuple #[.agg (cellsT (oneTo h n h.length) hd).toArray, .bool (oneTo h n h.length).odd] ∧ World.ownsB w' W.heap.size 85 2 (.slice hd.lA (oneTo h n h.length).loads.length hd.lc) (oneTo h n h.length).loads.length (cellsPr (oneTo h n h.length).loads) ∧ World.ownsB w' W.heap.size 85 2 (.slice hd.sA (oneTo h n h.length).stores.length hd.sc) (oneTo h n h.length).stores.length (cellsPr (oneTo h n h.length).stores) ∧ Fresh W w') (fun W hW => one58 A c h n W (hAE.at hW) hlt hl (hlane n hlt hk)) (fun _ _ _ hr => by obtain ⟨_, _, _, _, hf⟩ := hr; exact hf) fun W v W' hW hr ov => ?_
    obtain ⟨hd, hv, ho1, ho2, hf⟩ := hr
    have hwW : w.heap.size ≤ W.heap.size := (hov.heap hW).fresh'.size
    have hst : ∀ g ∈ fps [.own 75 0 11 oA z.length oc (cellsTs z), .own 4 0 1 dA z.length dc (oddV z)], g < W.heap.size := fun g hg => hW.fps_lt hg
    have hl1 := ownsB_rowE ho1 hst 37 []
    have hl2 := ownsB_rowE ho2 hst 37 []
    refine ⟨.tup [.agg (svB (oneTo h n h.length) hd), .val (.bool (oneTo h n h.length).odd)], ?_, ?_⟩
    ·rw [hv]; simp only [Is, IsL]; exact ⟨_, ⟨_, _, ⟨_, by simp [svB, cellsT, IsL, Is], rfl⟩, ⟨_, _, rfl, rfl, rfl⟩, rfl⟩, rfl⟩
    generalize hx : oneTo h n h.length = x at *
    generalize hs0 : fps [.own 75 0 11 oA z.length oc (cellsTs z), .own 4 0 1 dA z.length dc (oddV z)] = st' at *
    simp only [svB]
    (refine Y_go 600 ?_; dsimp only [zq8t, Y_k, zq4u, zq8o, zq6n, Nat.reduceBEq, zq6k, YK, zq5j, zq2f, nth, zq2e, zq6l, zq5e, List.length_cons, List.length_nil, Nat.reduceAdd, List.map, zq6q, zq6u, zq6p, List.cons_append, List.nil_append, zq5d, zq7t, zq8l, zq73, zq8m, zq77, zq7g, zq8k, zq0a, zq1x, zq1t, dropL, takeL, zq1r, splice, setn, zq8s, zq9i, normF, zq6m, zq89, zq87, zq8c, zq8f, zq86, zq9y, t56n1, T56n1, zq9r, zq9q, zq5c, zq1o, zq1k, zq19, zq17, zq5h, repL, zq23, Nat.reduceMul, zq20, zq24, zq26, zq5l, zq2w, zq09, zq08, zq2s, zq9b, zq2r, zq2n, zq2j, zq2k, denL, den, zq2l, zq2h, t56n0, T56n0, zq7u, zqa1, t56n3, T56n3, zq4w, zq8p, zq04, zq92, zq0e, zqa2])
    refine fun g1 g2 => ⟨⟨by simp only [maxLen]; omega, by omega⟩, fun A5 c5 g3 => ⟨⟨by simp only [maxLen]; omega, by omega⟩, fun A6 c6 => ⟨_, hadd, lend_rule fun a W2 rep => ?_⟩⟩⟩
    have hz2 : (z ++ [(x, hd)]).map (·.1) = (begs h (n + 1)).map fun k => oneTo h k h.length := by
     rw [hbs, if_pos hk, List.map_append, List.map_append, hz, List.map_cons, List.map_nil, List.map_cons, List.map_nil, hx]
    refine again ⟨n + 1, z ++ [(x, hd)], A5, c5, A6, c6, W', W'.heap.size, st'⟩ ⟨hlt, hz2, hov.trans ov, (hat.over ov).snoc hl1 hl2, hnw.snoc (fun a ha => Nat.le_trans hwW (ownsB_new ho1 a ha)) (fun a ha => Nat.le_trans hwW (ownsB_new ho2 a ha))⟩ (by simp only; omega) a W2 ?_
    have e1 : cellsTs (z ++ [(x, hd)]) = cellsTs z ++ [.int .i64 x.core, .int .i64 x.block, .int .i64 x.tr, .int .i64 x.lane, .int .i64 x.frm, .int .i64 x.point, .int .i64 x.to, .slice hd.lA x.loads.length hd.lc, .slice hd.sA x.stores.length hd.sc, .bool x.com, .int .i64 x.code] := by rw [cellsTs_app]; rfl
    have e2 : oddV (z ++ [(x, hd)]) = oddV z ++ [.bool x.odd] := by simp [oddV]
    simp only [e1, e2, List.length_append, List.length_cons, List.length_nil]
    exact rep.res.le (by (simp only [setn, List.nil_append, List.cons_append, leF, leH_nil, leH_cons, leF_nil, lk, scp, scpL, scpO, resF, resH, resO, resV, resVL, nth, Nat.reduceBEq, Nat.reduceLT, decide_true, decide_false, List.length, List.length_cons, List.length_nil, Nat.reduceAdd, Bool.and_self, Bool.and_true, and_true, true_and, numF] <;> try simp)) (by (simp only [setn, List.nil_append, List.cons_append, leF, leH_nil, leH_cons, leF_nil, lk, scp, scpL, scpO, resF, resH, resO, resV, resVL, nth, Nat.reduceBEq, Nat.reduceLT, decide_true, decide_false, List.length, List.length_cons, List.length_nil, Nat.reduceAdd, Bool.and_self, Bool.and_true, and_true, true_and, numF] <;> try simp))
   ·have hk : (evA h n).kind ≠ 1 := by simpa using hk
    refine again ⟨n + 1, z, oA, oc, dA, dc, b, N, st⟩ ⟨hlt, by simp only; rw [hbs, if_neg hk]; exact hz, hov, hat, hnw⟩ (by simp only; omega) a W (rep.le (by (simp only [setn, List.nil_append, List.cons_append, leF, leH_nil, leH_cons, leF_nil, lk, scp, scpL, scpO, resF, resH, resO, resV, resVL, nth, Nat.reduceBEq, Nat.reduceLT, decide_true, decide_false, List.length, List.length_cons, List.length_nil, Nat.reduceAdd, Bool.and_self, Bool.and_true, and_true, true_and, numF] <;> try simp)) (by (simp only [setn, List.nil_append, List.cons_append, leF, leH_nil, leH_cons, leF_nil, lk, scp, scpL, scpO, resF, resH, resO, resV, resVL, nth, Nat.reduceBEq, Nat.reduceLT, decide_true, decide_false, List.length, List.length_cons, List.length_nil, Nat.reduceAdd, Bool.and_self, Bool.and_true, and_true, true_and, numF] <;> try simp)))
  ·have hin : n = h.length := by have := of_decide_eq_false hge; omega
   subst hin
   refine ret_rule (vs := [.slice oA z.length oc, .slice dA z.length dc]) r56 rfl rfl fun W hW => hR _ _ ⟨z, oA, dA, oc, dc, hz, rfl, ?_, ?_, hat.at hW, (hov.heap hW).fresh', hnw⟩
   ·exact (hov.heap hW).owns (i := 0) rfl
   ·exact (hov.heap hW).owns (i := 1) rfl
end Go.Proofs.Ytbkpiljencaoeaa
