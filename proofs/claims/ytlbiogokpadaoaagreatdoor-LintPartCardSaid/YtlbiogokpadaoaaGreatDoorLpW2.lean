/- lint: where a way goes on, as an iterator. -/
import Derived.Test.YtlbiogokpadaoaaGreatDoorLpW1
import Derived.Test.YtlbiogokpadaoaaGreatDoorBgIsa4
import Derived.Test.YtlbiogokpadaoaaGreatDoorBgCodeLint
set_option linter.unusedSimpArgs false
set_option linter.unusedVariables false
set_option linter.unnecessarySimpa false
namespace Go.Proofs.YtlbiogokpadaoaaGreatDoor
open Go Go.Sx Go.Isa Go.Lint
set_option maxRecDepth 100000
theorem on73 (L B : Option Addr) (bn bc : Nat) (mv fv : Value) (l : List In) (s : Spot) (x : In) (w : World) (hL : RowAt w L [.slice B bn bc, mv, fv]) (hB : RowAt w B (cellsI l)) (hbn : bn = l.length) (h0 : 0 ≤ s.1) (hx : l[s.1.toNat]? = some x) :
  CallsV Tryz.prog 73 [.pointer L, spotV s] w fun v w' => ∃ g1 g2 g3, v = .func (.func 103) #[] #[.pointer (some ⟨g1, 0, none⟩), .pointer (some ⟨g2, 0, none⟩), .pointer (some ⟨g3, 0, none⟩)] ∧ (w.heap.size ≤ g1 ∧ w.heap.size ≤ g2 ∧ w.heap.size ≤ g3) ∧ (g1 ≠ g2 ∧ g1 ≠ g3 ∧ g2 ≠ g3) ∧
   (w'.heap[g1]? = some (.cells #[.int .i64 s.1, .bool s.2] 79 (0, 0)) ∧ w'.heap[g2]? = some (.cells x.cells.toArray 41 (0, 0)) ∧ w'.heap[g3]? = some (.cells #[.pointer L] 73 (0, 0))) ∧ Fresh w w' := by
 obtain ⟨hlt, hx⟩ := List.getElem?_eq_some_iff.1 hx
 subst hbn
 refine calls_go (keep := K73) (nt := 15) (svs := [.adr L 0, .agg [.val (.int .i64 s.1), .val (.bool s.2)]]) Tryz.func73 x73 n73 (by simp) ?_ fun R hR => ?_
 ·have hs : L.isSome = true := hL.isSome (j := 0) (by simp)
  cases L <;> simp [IsL, Is, Addr.add, spotV] at hs ⊢
 (refine Y_go 600 ?_; dsimp only [X73, numF, Nat.reduceAdd, zq9q, zq9p, Y_k, zq5e, zq8n, zq6m, Nat.reduceBEq, zq6j, zq7y, zq7k, zq0a, zq1z, List.length_nil, List.nil_append, YK, zq8s, zq6k, zq7s, List.length_cons, zq8k, zq72, zq8l, zq7f, zq8j, List.cons_append, zq4t, zq8o, zq6x, zq9h, normF, zq6l, zq85, zq86, zq8b, zq87, zq8c, zq9x, t73n1, T73n1, zq5b, zq1o, nth, zq1k, dropL, takeL, zq19, zq18, zq5h, zq2b, zq59, zq16, Nat.add_zero, zq1p, zq1g, zq1b, zq14, zq57, zq06, zq0w, zq1c, zq17, zq5d, List.map, zq6p, zq5c, zq1x, zq1t, zq1r, splice, setn, zq8r, t73n0, T73n0, zq5j, evL, zq8i, zq9w])
 have hs : L.isSome = true := hL.isSome (j := 0) (by simp)
 refine fun g3 g1 => ⟨hs, hs, _, _, _, hL.cell (j := 0) rfl, ⟨h0, by omega, someI hB hlt⟩, _, cellI hB hlt (k := 0) rfl, _, cellI hB hlt (k := 1) rfl, _, cellI hB hlt (k := 2) rfl, _, cellI hB hlt (k := 3) rfl, _, cellI hB hlt (k := 4) rfl, fun g2 => ?_⟩
 refine ret_rule (vs := [.func (.func 103) #[] #[.pointer (some ⟨g1, 0, none⟩), .pointer (some ⟨g2, 0, none⟩), .pointer (some ⟨g3, 0, none⟩)]]) r73 rfl rfl fun W hW => hR _ _ ⟨g1, g2, g3, rfl, ⟨?_, ?_, ?_⟩, ⟨?_, ?_, ?_⟩, ⟨?_, ?_, ?_⟩, hW.fresh'⟩
 ·exact hW.newer (i := 1) rfl rfl
 ·exact hW.newer (i := 2) rfl rfl
 ·exact hW.newer (i := 0) rfl rfl
 ·intro e; subst e; exact hW.dist 1 2 _ _ g1 (by decide) rfl rfl rfl rfl
 ·intro e; subst e; exact hW.dist 1 0 _ _ g1 (by decide) rfl rfl rfl rfl
 ·intro e; subst e; exact hW.dist 2 0 _ _ g2 (by decide) rfl rfl rfl rfl
 ·obtain ⟨c, hc, hL⟩ := hW.ents 1 _ rfl
  have := denL_is _ (us := [.int .i64 s.1, .bool s.2]) rfl hL
  have e : c = #[.int .i64 s.1, .bool s.2] := by rw [← Array.toList_inj]; exact this
  rw [e] at hc; exact hc
 ·obtain ⟨c, hc, hL⟩ := hW.ents 2 _ rfl
  have := denL_is _ (us := (l[s.1.toNat]).cells) rfl hL
  have e : c = (l[s.1.toNat]).cells.toArray := by rw [← Array.toList_inj]; exact this
  rw [e] at hc; rw [← hx]; exact hc
 ·obtain ⟨c, hc, hL⟩ := hW.ents 0 _ rfl
  have := denL_is _ (us := [.pointer (L.map (·.add 0))]) rfl hL
  have e2 : L.map (·.add 0) = L := by cases L <;> simp [Addr.add]
  rw [e2] at this
  have e : c = #[.pointer L] := by rw [← Array.toList_inj]; exact this
  rw [e] at hc; exact hc
end Go.Proofs.YtlbiogokpadaoaaGreatDoor
namespace Go.Proofs.YtlbiogokpadaoaaGreatDoor
open Go Go.Sx Go.Isa Go.Lint
set_option maxRecDepth 100000
structure WG where
 gm : Nat
 gl : Nat
 B : Option Addr
 bn : Nat
 bc : Nat
 gb : Nat
 g4 : Nat
 gt : Nat
 ga : Nat
 gx : Nat
 gs : Nat
 g1 : Nat
 g2 : Nat
 g3 : Nat
 D : Nat
 lno : Nat
 s : Spot
 x : In
 set : Set8
structure WV where
 k : Nat
 v : Nat
 Af : Option Addr
 cf : Nat
 At : Option Addr
 ct : Nat
abbrev HM (w : WG) (st : St) (q : WV) (o : Obj) : List SO := [.cells w.gb 73 [.ptr 1 0], .gone w.g4, .cells w.gt 109 [.own 6 q.v], .own 79 q.v 2 q.At st.todo.length q.ct (spotsV st.todo), .cells w.ga 79 [.val (.int .i64 w.s.1), .val (.bool w.s.2)], .cells w.gx 41 (In.sv w.x), .cells w.gs 5 [.val (.int .u8 w.set.toNat)], .cells w.g1 79 [.val (.int .i64 w.s.1), .val (.bool w.s.2)], .cells w.g2 41 (In.sv w.x), .cells w.g3 73 [.val (.pointer (some ⟨w.gl, 0, none⟩))], .obj w.D (.deferred (some [])), .obj w.lno o]
abbrev HS (w : WG) (st : St) (q : WV) (o : Obj) (gn : Nat) (nn : Spot) : List SO := lkE w.gm w.gl w.B w.bn w.bc st.met q.k q.Af st.fs.length q.cf (fsV st.fs) ++ (HM w st q o ++ [.cells gn 79 [.val (.int .i64 nn.1), .val (.bool nn.2)]])
abbrev walkF : List (Nat × SV) := [(1, .ptr 3 0), (2, .ptr 5 0), (3, .ptr 7 0), (4, .ptr 8 0), (5, .ptr 9 0), (58, .fn (.func 103) [] [.ptr 10 0, .ptr 11 0, .ptr 12 0])]
abbrev asX : XC := match T39n9 with | .blk _ (.rng _ _ a _) => a | _ => .skip
abbrev YI (w : WG) : SV := .val (.func (.yield w.lno) #[] #[])
structure WV.le (a b : WV) : Prop where
 k0 : a.k ≤ b.k
 k1 : b.k ≤ a.k + 1
 v0 : a.v ≤ b.v
 v1 : b.v ≤ a.v + 1
abbrev HB (w : WG) (m : Met) (td : List Spot) (fs : List (Int × Int)) (q : WV) (o : Obj) (gn : Nat) (nn : Spot) (g6 : Nat) (n : Spot) : List SO :=
 lkE w.gm w.gl w.B w.bn w.bc m q.k q.Af fs.length q.cf (fsV fs) ++ ([.cells w.gb 73 [.ptr 1 0], .gone w.g4, .cells w.gt 109 [.own 6 q.v], .own 79 q.v 2 q.At td.length q.ct (spotsV td), .cells w.ga 79 [.val (.int .i64 w.s.1), .val (.bool w.s.2)], .cells w.gx 41 (In.sv w.x), .cells w.gs 5 [.val (.int .u8 w.set.toNat)], .cells w.g1 79 [.val (.int .i64 w.s.1), .val (.bool w.s.2)], .cells w.g2 41 (In.sv w.x), .cells w.g3 73 [.val (.pointer (some ⟨w.gl, 0, none⟩))], .obj w.D (.deferred (some [])), .obj w.lno o] ++ [.cells gn 79 [.val (.int .i64 nn.1), .val (.bool nn.2)], .cells g6 79 [.val (.int .i64 n.1), .val (.bool n.2)]])
def meetM (set : Set8) (m : Met) (td : List Spot) (n : Spot) : Met × List Spot × Bool := match get m n with
 | none => (put m n (255#8 &&& set), td ++ [n], true)
 | some was => if was &&& set ≠ was then (put m n (was &&& set), td ++ [n], true) else (m, td, false)
theorem roundB {b : World} {N : Nat} {stl : List Nat} {Q' : Post} (hQ' : NoPanic Q') (w : WG) (m : Met) (td : List Spot) (fs : List (Int × Int)) (n : Spot) (q : WV) (o : Obj) (gn : Nat) (nn : Spot) (g6 : Nat)
  (hn : 0 ≤ n.1 ∧ n.1 ≤ 1024) (hrg : Rg m) (htd : td.length ≤ 100000000) (hv : q.v = 0 ∨ q.v = 1) {F : List (Nat × SV)} (hF : leF 17 F [(1, .ptr 3 0), (2, .ptr 5 0), (5, .ptr 9 0), (6, .ptr 16 0)])
  (hend : ∀ v' At' ct', q.v ≤ v' → v' ≤ q.v + 1 → (v' = q.v → At' = q.At ∧ ct' = q.ct ∧ (meetM w.set m td n).2.1 = td) → ∀ F2 a W, Rep ⟨b, N, stl, 108, []⟩ { F := F2, H := HB w (meetM w.set m td n).1 (meetM w.set m td n).2.1 fs { q with v := v', At := At', ct := ct' } o gn nn g6 n } a W → Q' .normal a W) :
  G (cxR Tryz.prog K39 T39 w.lno Q') ⟨b, N, stl, 108, []⟩ [.code (.ref 7), .blk 3] { F := F, H := HB w m td fs q o gn nn g6 n } := by
 refine G.le (E' := ⟨b, N, stl, 108, []⟩) (s' := { F := [(1, .ptr 3 0), (2, .ptr 5 0), (5, .ptr 9 0), (6, .ptr 16 0)], H := HB w m td fs q o gn nn g6 n }) rfl (fun a W rep => rep.le hF (by (simp only [setn, List.nil_append, List.cons_append, leF, leH_nil, leH_cons, leF_nil, lk, scp, scpL, scpO, resF, resH, resO, resV, resVL, nth, Nat.reduceBEq, Nat.reduceLT, decide_true, decide_false, List.length, List.length_cons, List.length_nil, Nat.reduceAdd, Bool.and_self, Bool.and_true, and_true, true_and, numF] <;> try simp); exact rfl)) ?_
 obtain ⟨k, v, Af, cf, At, ct⟩ := q
 simp only at hv
 have hfit := fit_met hrg
 have hfn := fit_spot hn.1 hn.2
 have hget := getA_met m n
 have hput := putA_met m n
 have hsp : spotsV td ++ [Value.int IntKind.i64 n.1, Value.bool n.2] = spotsV (td ++ [n]) := by rw [spotsV_app]; rfl
 have push : ∀ r : Set8, meetM w.set m td n = (put m n r, td ++ [n], true) → ∀ v', v' = v + 1 → ∀ A c g F2 a W, Rep ⟨b, N, stl, 108, []⟩ { F := F2, H := HB w (put m n r) (td ++ [n]) fs ⟨k, v', Af, cf, A, c⟩ o gn nn g6 n ++ [.cells g 79 [.val (.int .i64 n.1), .val (.bool n.2)]] } a W → Q' .normal a W := by
  rintro r hmt v' rfl A c g F2 a W rep
  rw [hmt] at hend
  refine hend (v + 1) A c (by show v ≤ v + 1; omega) (by show v + 1 ≤ v + 1; omega) (fun e => by have e : v + 1 = v := e; omega) [] a W (rep.le ?_ ?_)
  ·(simp only [setn, List.nil_append, List.cons_append, leF, leH_nil, leH_cons, leF_nil, lk, scp, scpL, scpO, resF, resH, resO, resV, resVL, nth, Nat.reduceBEq, Nat.reduceLT, decide_true, decide_false, List.length, List.length_cons, List.length_nil, Nat.reduceAdd, Bool.and_self, Bool.and_true, and_true, true_and, numF] <;> try simp)
  ·(simp only [setn, List.nil_append, List.cons_append, leF, leH_nil, leH_cons, leF_nil, lk, scp, scpL, scpO, resF, resH, resO, resV, resVL, nth, Nat.reduceBEq, Nat.reduceLT, decide_true, decide_false, List.length, List.length_cons, List.length_nil, Nat.reduceAdd, Bool.and_self, Bool.and_true, and_true, true_and, numF] <;> try simp); exact rfl
 have keep : ∀ m', meetM w.set m td n = (m, td, m') → ∀ F2 a W, Rep ⟨b, N, stl, 108, []⟩ { F := F2, H := HB w m td fs ⟨k, v, Af, cf, At, ct⟩ o gn nn g6 n } a W → Q' .normal a W := by
  rintro m' hmt F2 a W rep
  rw [hmt] at hend
  exact hend v At ct (Nat.le_refl _) (by show v ≤ v + 1; omega) (fun _ => ⟨rfl, rfl, rfl⟩) F2 a W rep
 cases hg : get m n with
 | none =>
  have hmt : meetM w.set m td n = (put m n (255#8 &&& w.set), td ++ [n], true) := by simp [meetM, hg]
  rw [hg] at hget
  rcases hv with rfl | rfl
  all_goals (refine Y_round hQ' 600 ?_; dsimp only [List.cons_append, List.nil_append, zq9x, t39n7, T39n7, zq9q, zq9p, Y_k, zq5b, zq8n, zq6m, Nat.reduceBEq, zq6j, zq1o, nth, zq1k, List.length_cons, List.length_nil, Nat.reduceAdd, dropL, takeL, zq19, zq18, YK, zq8s, zq5h, zq29, zq59, zq14, zq6k, zq17, zq61, den, denL, zq4p, zq4o, zq4d, zq4t, zq5i, zq2f, zq2e, zq9h, normF, zq6l, zq85, zq86, zq8b, t39n6, T39n6, zq52])
  all_goals refine ⟨⟨hfn, hfit⟩, none, hget, .val (.int .u8 0), rfl, ?_⟩
  all_goals dsimp only [Option.isSome, zq86, zq6m, Nat.reduceBEq, zq6k, zq6j, zq0o, YK, zq8s, zq9h, normF, zq6l, zq85, zq8b, zq9x, t39n2, T39n2, zq9r, zq8n, zq6g, zq8w, YC, zq9p, Y_k, zq4t, zq8o, zq6p, zq88, t39n5, T39n5, zq9q, zq52, Y_gk, zq6d, YS, zq69, zq4u, zq6n, zq0b, zq6e, t39n4, T39n4, zq5b, zq1o, nth, zq1k, List.length_cons, List.length_nil, Nat.reduceAdd, dropL, takeL, zq19, zq18, zq5h, zq29, zq59, zq14, zq17, zq4x, zq04, zq92, zq9a, zq0g, zq62, den, denL, zq4r, zq4q, setn, zq8r, t39n3, T39n3, zq5g, List.map, zq6o, repL, List.cons_append, List.nil_append, zq23, Nat.reduceMul, zq7s, zq8k, zq72, zq8l, zq7f, zq8j, zq0a, zq20, splice, zq24, zq26, zq5k, zq2v, zq09, zq08, zq2r, zq2q, zq2n, zq2j, zq2k, zq2l, zq2h, zq5c, zq80, zq7m, zq1x, zq1t, zq1r, zqa0, zqa2, YR, zq6b, zq4z, zq0i, zq9c, zq0c, zq9o, zq89]
  all_goals refine ⟨fun _ => ⟨fun _ => ⟨_, and8 255#8 w.set, ⟨hfn, hfit⟩, _, hput _, fun g => ⟨⟨by simp only [maxLen]; omega, by omega⟩, fun A c => ?_⟩⟩, fun h => absurd h (by decide)⟩, fun h => absurd h (by decide)⟩
  all_goals rw [hsp]
  all_goals refine stop_rule fun a W rep => push _ hmt _ rfl A c g [] a W (rep.le ?_ ?_)
  all_goals first | ((simp only [setn, List.nil_append, List.cons_append, leF, leH_nil, leH_cons, leF_nil, lk, scp, scpL, scpO, resF, resH, resO, resV, resVL, nth, Nat.reduceBEq, Nat.reduceLT, decide_true, decide_false, List.length, List.length_cons, List.length_nil, Nat.reduceAdd, Bool.and_self, Bool.and_true, and_true, true_and, numF] <;> try simp); done) | ((simp only [setn, List.nil_append, List.cons_append, leF, leH_nil, leH_cons, leF_nil, lk, scp, scpL, scpO, resF, resH, resO, resV, resVL, nth, Nat.reduceBEq, Nat.reduceLT, decide_true, decide_false, List.length, List.length_cons, List.length_nil, Nat.reduceAdd, Bool.and_self, Bool.and_true, and_true, true_and, numF] <;> try simp); exact rfl)
 | some was =>
  rw [hg] at hget
  rcases hv with rfl | rfl
  all_goals (refine Y_round hQ' 600 ?_; dsimp only [List.cons_append, List.nil_append, zq9x, t39n7, T39n7, zq9q, zq9p, Y_k, zq5b, zq8n, zq6m, Nat.reduceBEq, zq6j, zq1o, nth, zq1k, List.length_cons, List.length_nil, Nat.reduceAdd, dropL, takeL, zq19, zq18, YK, zq8s, zq5h, zq29, zq59, zq14, zq6k, zq17, zq61, den, denL, zq4p, zq4o, zq4d, zq4t, zq5i, zq2f, zq2e, zq9h, normF, zq6l, zq85, zq86, zq8b, t39n6, T39n6, zq52])
  all_goals refine ⟨⟨hfn, hfit⟩, _, hget, .val (.int .u8 was.toNat), rfl, ?_⟩
  all_goals dsimp only [Option.map, Option.isSome, zq86, zq6m, Nat.reduceBEq, zq6k, zq6j, zq0o, YK, zq8s, zq9h, normF, zq6l, zq85, zq8b, zq9x, t39n2, T39n2, zq9r, zq8n, zq6g, zq8w, YC, zq9p, Y_k, zq4t, zq8o, zq6p, zq88, t39n5, T39n5, zq9q, zq52, Y_gk, zq6d, YS, zq69, zq4u, zq6n, zq0b, zq6e, t39n4, T39n4, zq5b, zq1o, nth, zq1k, List.length_cons, List.length_nil, Nat.reduceAdd, dropL, takeL, zq19, zq18, zq5h, zq29, zq59, zq14, zq17, zq4x, zq04, zq92, zq9a, zq0g, zq62, den, denL, zq4r, zq4q, setn, zq8r, t39n3, T39n3, zq5g, List.map, zq6o, repL, List.cons_append, List.nil_append, zq23, Nat.reduceMul, zq7s, zq8k, zq72, zq8l, zq7f, zq8j, zq0a, zq20, splice, zq24, zq26, zq5k, zq2v, zq09, zq08, zq2r, zq2q, zq2n, zq2j, zq2k, zq2l, zq2h, zq5c, zq80, zq7m, zq1x, zq1t, zq1r, zqa0, zqa2, YR, zq6b, zq4z, zq0i, zq9c, zq0c, zq9o, zq89]
  all_goals refine ⟨fun h => absurd h (by decide), fun _ => ⟨fun h => absurd h (by decide), fun _ => ⟨_, and8 was w.set, ⟨fun hne => ⟨_, and8 was w.set, ⟨hfn, hfit⟩, _, hput _, fun g => ⟨⟨by simp only [maxLen]; omega, by omega⟩, fun A c => ?_⟩⟩, fun heq => ?_⟩⟩⟩⟩
  all_goals try rw [hsp]
  all_goals first
   | (have hne' : was &&& w.set ≠ was := fun e => by rw [e] at hne; simp at hne
      have hmt : meetM w.set m td n = (put m n (was &&& w.set), td ++ [n], true) := by simp [meetM, hg, hne']
      refine stop_rule fun a W rep => push _ hmt _ rfl A c g [] a W (rep.le ?_ ?_) <;> first | ((simp only [setn, List.nil_append, List.cons_append, leF, leH_nil, leH_cons, leF_nil, lk, scp, scpL, scpO, resF, resH, resO, resV, resVL, nth, Nat.reduceBEq, Nat.reduceLT, decide_true, decide_false, List.length, List.length_cons, List.length_nil, Nat.reduceAdd, Bool.and_self, Bool.and_true, and_true, true_and, numF] <;> try simp); done) | ((simp only [setn, List.nil_append, List.cons_append, leF, leH_nil, leH_cons, leF_nil, lk, scp, scpL, scpO, resF, resH, resO, resV, resVL, nth, Nat.reduceBEq, Nat.reduceLT, decide_true, decide_false, List.length, List.length_cons, List.length_nil, Nat.reduceAdd, Bool.and_self, Bool.and_true, and_true, true_and, numF] <;> try simp); exact rfl))
   | (have heq' : was &&& w.set = was := eq8.1 (by simpa using heq)
      have hmt : meetM w.set m td n = (m, td, false) := by simp [meetM, hg, heq']
      refine stop_rule fun a W rep => keep _ hmt [] a W (rep.le ?_ ?_) <;> first | ((simp only [setn, List.nil_append, List.cons_append, leF, leH_nil, leH_cons, leF_nil, lk, scp, scpL, scpO, resF, resH, resO, resV, resVL, nth, Nat.reduceBEq, Nat.reduceLT, decide_true, decide_false, List.length, List.length_cons, List.length_nil, Nat.reduceAdd, Bool.and_self, Bool.and_true, and_true, true_and, numF] <;> try simp); done) | ((simp only [setn, List.nil_append, List.cons_append, leF, leH_nil, leH_cons, leF_nil, lk, scp, scpL, scpO, resF, resH, resO, resV, resVL, nth, Nat.reduceBEq, Nat.reduceLT, decide_true, decide_false, List.length, List.length_cons, List.length_nil, Nat.reduceAdd, Bool.and_self, Bool.and_true, and_true, true_and, numF] <;> try simp); exact rfl))
end Go.Proofs.YtlbiogokpadaoaaGreatDoor
namespace Go.Proofs.YtlbiogokpadaoaaGreatDoor
open Go Go.Sx Go.Isa Go.Lint
set_option maxRecDepth 100000
theorem meet_meetM (len : Int) (set : Set8) (p : Int) (st : St) (n : Spot) : meet len set p st n = ⟨(meetM set st.met st.todo n).1, (meetM set st.met st.todo n).2.1, if n.2 = true ∧ len ≤ n.1 then st.fs ++ [(5, p)] else st.fs⟩ := by
 unfold meet meetM
 cases get st.met n with
 | none => rfl
 | some was => by_cases h : was &&& set ≠ was <;> simp [h]
theorem ops_nil {C : Cx} {E : Env} {k : List KI} {s : SS} (h : G C E k s) : G C E (.ops [] :: k) s := by
 intro a W rep ops ol hol
 have : ol = [] := by
  cases ol with
  | nil => rfl
  | cons x l => simp only [cmpL] at hol; split at hol <;> simp at hol
 subst this
 exact h a W rep
theorem own_bump {t : TypeId} {k k' sz : Nat} {A A' : Option Addr} {n n' c c' : Nat} {xs xs' : List Value} (h : (k' = k ∧ A' = A ∧ n' = n ∧ c' = c ∧ xs' = xs) ∨ k < k') : (∃ g, (SO.own t k sz A n c xs).blk = some g ∧ (SO.own t k' sz A' n' c' xs').blk = some g) ∨ SO.own t k' sz A' n' c' xs' = SO.own t k sz A n c xs ∨ bump (SO.own t k sz A n c xs) (SO.own t k' sz A' n' c' xs') := by
 rcases h with ⟨rfl, rfl, rfl, rfl, rfl⟩ | h
 ·exact .inr (.inl rfl)
 ·exact .inr (.inr h)
theorem hs_ext (w : WG) (st : St) (q q' : WV) (o o' : Obj) (gn g6 : Nat) (nn n : Spot) (m' : Met) (td' : List Spot) (fs' : List (Int × Int)) (hk : (q'.k = q.k ∧ q'.Af = q.Af ∧ q'.cf = q.cf ∧ fs' = st.fs) ∨ q.k < q'.k) (hv : (q'.v = q.v ∧ q'.At = q.At ∧ q'.ct = q.ct ∧ td' = st.todo) ∨ q.v < q'.v) : HExt (HS w st q o gn nn) (HB w m' td' fs' q' o' gn nn g6 n) := by
 refine extB_spec ⟨.inl ⟨_, rfl, rfl⟩, .inl ⟨_, rfl, rfl⟩, own_bump ?_, .inl ⟨_, rfl, rfl⟩, .inl ⟨_, rfl, rfl⟩, .inl ⟨_, rfl, rfl⟩, own_bump ?_, .inl ⟨_, rfl, rfl⟩, .inl ⟨_, rfl, rfl⟩, .inl ⟨_, rfl, rfl⟩, .inl ⟨_, rfl, rfl⟩, .inl ⟨_, rfl, rfl⟩, .inl ⟨_, rfl, rfl⟩, .inl ⟨_, rfl, rfl⟩, .inl ⟨_, rfl, rfl⟩, .inl ⟨_, rfl, rfl⟩, trivial⟩
 ·exact hk.imp (fun ⟨a, b, c, d⟩ => ⟨a, b, by rw [d], c, by rw [d]⟩) id
 ·exact hv.imp (fun ⟨a, b, c, d⟩ => ⟨a, b, by rw [d], c, by rw [d]⟩) id
theorem round39 {R' : Value → World → Prop} {b : World} {N : Nat} {stl : List Nat} {mk : List Nat} {nt' : Nat} (w : WG) (st : St) (n : Spot) (q : WV) (rec : Loop) (gn : Nat) (nn : Spot) (s0 : SS)
  (hn : 0 ≤ n.1 ∧ n.1 ≤ 1024) (hrg : Rg st.met) (hfs : st.fs.length ≤ 100000000) (htd : st.todo.length ≤ 100000000) (hv : q.v = 0 ∨ q.v = 1) (hst : rec.state = .ready)
  (hrec : RecOk Tryz.prog 108 T39 s0 [59] asX (.ref 8) rec) (hF0 : s0.F = walkF) (hx : HExt s0.H (HS w st q (.loop rec) gn nn))
  {d : Option Nat} {f : Operand} {args : List Operand} {l : List XS} {kk : List KI} {F' : List (Nat × SV)} (hf : den (HS w st q (.loop rec) gn nn) (ev F' f) = some (.func (.yield w.lno) #[] #[])) (ha1 : args.length = 1) (hargs : evL F' args = [.agg [.val (.int .i64 n.1), .val (.bool n.2)]])
  {F'' : List (Nat × SV)} (hF2 : leF 16 (putF F' d .bt) F'')
  (next : ∀ q' : WV, q.le q' → (q'.k = q.k → q'.Af = q.Af ∧ q'.cf = q.cf ∧ (meet w.bn w.set w.s.1 st n).fs = st.fs) → (q'.v = q.v → q'.At = q.At ∧ q'.ct = q.ct ∧ (meet w.bn w.set w.s.1 st n).todo = st.todo) →
   G (cxOf Tryz.prog Tryz.f103 K103 T103 R') ⟨b, N, stl, nt', []⟩ (.ops l :: kk) { F := F'', H := HS w (meet w.bn w.set w.s.1 st n) q' (.loop rec) gn nn }) :
  G (cxOf Tryz.prog Tryz.f103 K103 T103 R') ⟨b, N, stl, nt', []⟩ (.ops ({ dst := d, guard := none, i := .callv f args } :: l) :: kk) { F := F', H := HS w st q (.loop rec) gn nn } := by
 refine yield_rule (C' := cxOf Tryz.prog Tryz.f103 K103 T103 R') (E := ⟨b, N, stl, 108, mk⟩) (E' := ⟨b, N, stl, nt', []⟩) (s' := { F := F', H := HS w st q (.loop rec) gn nn }) (i := 14) (rec := rec) (lno := w.lno) (keep := K39) rfl rfl rfl hrec ?_ hf ?_ rfl hx ?_
 ·intro p hp; simp at hp; subst hp; show 59 < 108; decide
 ·exact ha1.symm
 intro J Q' hQ' hbeg hnorm _
 have hF : NoPanic (fun _ _ _ => False) := fun _ _ _ h => h
 rw [hargs, hF0]
 (refine Y_round hF 600 ?_; dsimp only [asX, T39n9, setPs, List.cons_append, HM, List.nil_append, zq9p, Y_k, zq5d, List.length_cons, List.length_nil, Nat.reduceAdd, List.map, zq6p, zq6o, YK, zq8s, zq5c, zq8n, zq6m, Nat.reduceBEq, zq6j, zq6k, zq7s, zq8k, zq72, zq8l, zq7f, zq8j, zq0a, zq1x, nth, zq1t, dropL, takeL, zq1r, splice, setn, zq8r, zq9h, normF, zq6l, zq85, zq87, zq8i, zq8b, zqa1])
 refine fun g6 => lend_rule fun a W rep => hbeg _ _ rfl ?_ a W rep
 have tl : ∀ (fs' : List (Int × Int)) (k' : Nat) (Af' : Option Addr) (cf' : Nat), fs' = (if n.2 = true ∧ (w.bn : Int) ≤ n.1 then st.fs ++ [(5, w.s.1)] else st.fs) → q.k ≤ k' → k' ≤ q.k + 1 → ((k' = q.k ∧ Af' = q.Af ∧ cf' = q.cf ∧ fs' = st.fs) ∨ q.k < k') →
   ∀ F, leF 17 F [(1, .ptr 3 0), (2, .ptr 5 0), (5, .ptr 9 0), (6, .ptr 16 0)] → G (cxR Tryz.prog K39 T39 w.lno Q') ⟨b, N, stl, 108, []⟩ [.code (.ref 7), .blk 3] { F := F, H := HB w st.met st.todo fs' { q with k := k', Af := Af', cf := cf' } (.loop { rec with state := .busy }) gn nn g6 n } := by
  intro fs' k' Af' cf' hfs' hk0 hk1 hkk F hF
  refine roundB hQ' w st.met st.todo fs' n { q with k := k', Af := Af', cf := cf' } _ gn nn g6 hn hrg htd hv hF fun v' At' ct' hv0 hv1 hvv F2 a W rep => ?_
  have hmm := meet_meetM w.bn w.set w.s.1 st n
  rw [← hfs'] at hmm
  refine hnorm _ rfl (hs_ext w st q _ _ _ gn g6 nn n _ _ fs' hkk ?_) ?_ F2 a W rep
  ·rcases Nat.lt_or_ge q.v v' with h | h
   ·exact .inr h
   ·have e : v' = q.v := by have : q.v ≤ v' := hv0; omega
    obtain ⟨h1, h2, h3⟩ := hvv e
    exact .inl ⟨e, h1, h2, h3⟩
  ·refine G.le (E' := ⟨b, N, stl, nt', []⟩) (s' := { F := F'', H := HS w (meet w.bn w.set w.s.1 st n) ⟨k', v', Af', cf', At', ct'⟩ (.loop rec) gn nn }) rfl (fun a W rep => ?_) (next ⟨k', v', Af', cf', At', ct'⟩ ⟨hk0, hk1, hv0, hv1⟩ (fun e => ?_) (fun e => ?_))
   ·rw [hmm]
    refine rep.le hF2 ?_
    (simp only [setn, List.nil_append, List.cons_append, leF, leH_nil, leH_cons, leF_nil, lk, scp, scpL, scpO, resF, resH, resO, resV, resVL, nth, Nat.reduceBEq, Nat.reduceLT, decide_true, decide_false, List.length, List.length_cons, List.length_nil, Nat.reduceAdd, Bool.and_self, Bool.and_true, and_true, true_and, numF] <;> try simp)
    exact rfl
   ·rcases hkk with ⟨_, h2, h3, h4⟩ | h
    ·exact ⟨h2, h3, by rw [hmm]; exact h4⟩
    ·have e : k' = q.k := e; omega
   ·obtain ⟨h1, h2, h3⟩ := hvv e
    exact ⟨h1, h2, by rw [hmm]; exact h3⟩
 (refine Y_round hQ' 20 ?_; dsimp only [setn, zq9x, t39n8, T39n8, zq9s, zq9q, zq9p, Y_k, zq59, zq8n, zq6m, Nat.reduceBEq, zq6k, zq6j, zq14, Nat.reduceAdd, YK, zq8s, zq5b, zq1o, nth, zq1k, List.length_cons, List.length_nil, dropL, takeL, zq19, zq18, zq4t, Y_gk, zq6c, YR, Nat.add_zero, zq68, zq5h, zq29, zq54, zq0r, zq4z, zq04, zq91, zq9a, zq0i, zq9g, zq4u, zq8o, zq6o, zq0b, zq9h, normF, zq6l, zq85, zq86, zq87, zq8i, zq8b, zq9r, zq6g, zq8w, YC, t39n1, T39n1, Y_0, zq9o, YS, zq6a, zq0c, zq89, zq6f])
 refine ⟨fun hin => ⟨fun hge => ?_, fun hlt => ?_⟩, fun hin => ?_⟩
 ·have hge := of_decide_eq_true hge
  (refine Y_round hQ' 600 ?_; dsimp only [zq9p, Y_k, zq5b, zq8n, zq6m, Nat.reduceBEq, zq6k, zq6j, zq1o, nth, zq1k, List.length_cons, List.length_nil, Nat.reduceAdd, dropL, takeL, zq19, zq18, YK, zq8s, zq59, zq14, Nat.add_zero, zq9i])
  refine find_rule (C := cxR Tryz.prog K39 T39 w.lno Q') rfl (gm := w.gm) (gl := w.gl) (B := w.B) (bn := w.bn) (bc := w.bc) (m := st.met) (k := q.k) (A := q.Af) (n := st.fs.length) (c := q.cf) (xs := fsV st.fs) (cd := 5) (p := w.s.1) (r := HM w st q (.loop { rec with state := .busy }) ++ [.cells gn 79 [.val (.int .i64 nn.1), .val (.bool nn.2)], .cells g6 79 [.val (.int .i64 n.1), .val (.bool n.2)]]) (by omega) ?_ fun A' c' => ?_
  ·rfl
  refine ops_nil ?_
  have hfs : (if n.2 = true ∧ (w.bn : Int) ≤ n.1 then st.fs ++ [(5, w.s.1)] else st.fs) = st.fs ++ [(5, w.s.1)] := if_pos ⟨hin, hge⟩
  have e1 : fsV st.fs ++ [Value.int .i64 5, .int .i64 w.s.1] = fsV (st.fs ++ [(5, w.s.1)]) := by rw [fsV_app]; rfl
  have e2 : st.fs.length + 1 = (st.fs ++ [(5, w.s.1)]).length := by simp
  rw [e1, e2]
  exact tl (st.fs ++ [(5, w.s.1)]) (q.k + 1) A' c' hfs.symm (by omega) (by omega) (.inr (by omega)) _ (by simp only [putF]; (simp only [setn, List.nil_append, List.cons_append, leF, leH_nil, leH_cons, leF_nil, lk, scp, scpL, scpO, resF, resH, resO, resV, resVL, nth, Nat.reduceBEq, Nat.reduceLT, decide_true, decide_false, List.length, List.length_cons, List.length_nil, Nat.reduceAdd, Bool.and_self, Bool.and_true, and_true, true_and, numF] <;> try simp))
 ·have hlt := of_decide_eq_false hlt
  exact tl st.fs q.k q.Af q.cf (if_neg (by omega)).symm (by omega) (by omega) (.inl ⟨rfl, rfl, rfl, rfl⟩) _ (by (simp only [setn, List.nil_append, List.cons_append, leF, leH_nil, leH_cons, leF_nil, lk, scp, scpL, scpO, resF, resH, resO, resV, resVL, nth, Nat.reduceBEq, Nat.reduceLT, decide_true, decide_false, List.length, List.length_cons, List.length_nil, Nat.reduceAdd, Bool.and_self, Bool.and_true, and_true, true_and, numF] <;> try simp))
 ·exact tl st.fs q.k q.Af q.cf (if_neg (by simp [hin])).symm (by omega) (by omega) (.inl ⟨rfl, rfl, rfl, rfl⟩) _ (by (simp only [setn, List.nil_append, List.cons_append, leF, leH_nil, leH_cons, leF_nil, lk, scp, scpL, scpO, resF, resH, resO, resV, resVL, nth, Nat.reduceBEq, Nat.reduceLT, decide_true, decide_false, List.length, List.length_cons, List.length_nil, Nat.reduceAdd, Bool.and_self, Bool.and_true, and_true, true_and, numF] <;> try simp))
end Go.Proofs.YtlbiogokpadaoaaGreatDoor
