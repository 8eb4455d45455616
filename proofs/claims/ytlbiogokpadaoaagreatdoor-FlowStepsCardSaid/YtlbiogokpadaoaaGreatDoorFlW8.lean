/- FlowSteps: the statement, walked. -/
import Derived.Test.YtlbiogokpadaoaaGreatDoorFlSteps
import Derived.Test.YtlbiogokpadaoaaGreatDoorDoW1
import Derived.Test.YtlbiogokpadaoaaGreatDoorFlCode
import Derived.Test.YtlbiogokpadaoaaGreatDoorFlCode2
set_option linter.unusedSimpArgs false
set_option linter.unusedVariables false
set_option linter.unnecessarySimpa false
namespace Go.Proofs.YtlbiogokpadaoaaGreatDoor
open Go Go.Sx Go.Isa Go.Asm
set_option maxRecDepth 100000
theorem law11 (l : List In) (B : Option Addr) (bc : Nat) (rs : List Int) (p : Int) (w : World) (hB : RowAt w B (cellsI l)) (hr : rs.length = 8) (hU : ∀ n ∈ rs, isU n) (hp : is64 p) (hG : ShAt w) (hT : TabAt w) (hLb : LibAt w) :
  CallsV Tryz.prog 11 [.slice B l.length bc, .agg (rs.map uV).toArray, .int .i64 p] w fun v w' => Fresh w w' ∧ v = .bool true := by
 obtain ⟨r0, r1, r2, r3, r4, r5, r6, r7, rfl⟩ : ∃ r0 r1 r2 r3 r4 r5 r6 r7, rs = [r0, r1, r2, r3, r4, r5, r6, r7] := by
  match rs, hr with
  | [r0, r1, r2, r3, r4, r5, r6, r7], _ => exact ⟨r0, r1, r2, r3, r4, r5, r6, r7, rfl⟩
 refine calls_go (keep := K11) (nt := 168) (svs := [.val (.slice B l.length bc), .agg [.val (uV r0), .val (uV r1), .val (uV r2), .val (uV r3), .val (uV r4), .val (uV r5), .val (uV r6), .val (uV r7)], .val (.int .i64 p)]) Tryz.func11 x11 n11 (by simp) (by simp [IsL, Is, uV]) fun R hR => ?_
 (refine Y_go 600 ?_; dsimp only [X11, uV, numF, Nat.reduceAdd, zq9r, zq9q, Y_k, zq5f, zq8o, zq6n, Nat.reduceBEq, zq6l, zq6k, zq7t, List.length_cons, List.length_nil, zq8l, zq73, zq8m, zq8k, zq0a, zq1z, List.nil_append, YK, zq8t, zq4u, zq8p, zq6p, zq9i, normF, zq6m, zq86, zq8a, zq8c, zq87, zq88, zq9y, t11n17, T11n17, zq9j])
 intro g
 refine call_val (vs := []) rfl (fun W hW => alive16 W (hG.keep hW.fresh') (hT.keep hW.fresh') (hLb.keep hW.fresh')) fun v hv => ⟨.bt, by rw [hv]; simp [Is], ?_⟩
 (refine Y_go 600 ?_; dsimp only [zq8t, Y_k, zq4u, zq8o, zq6n, Nat.reduceBEq, zq6k, YK, zq9i, normF, zq6l, zq6m, zq86, zq89, zq8a, zq8c, zq87, zq88, zq9y, t11n16, T11n16, zq9r, zq9q, zq55, zq0r, zq50, zq8p, zq6q, zq04, zq92, zq9b, zq0i, zq9g, Y_gk, zq6e, YS, zq6a, zq4v, zq6o, zq0b, zq9s, zq6f, YC, t11n0, T11n0, zq9x, YR, zq6c, zq9e, zq0c, zq9h, zq53, zq0m, zq6g, zq9p, t11n15, T11n15, zq9j])
 have done : ∀ F H, denAll H F [6] = some [.bool true] → RetG (cxOf Tryz.prog Tryz.f11 K11 T11 R) ⟨w, w.heap.size, [], 168, []⟩ { F := F, H := H } := fun F H hd =>
  ret_rule (vs := [.bool true]) r11 rfl hd fun W hW => hR _ _ ⟨hW.fresh', rfl⟩
 refine ⟨fun _ => done _ _ rfl, fun h1 => ⟨fun _ => done _ _ rfl, fun h2 => ⟨fun _ => done _ _ rfl, fun h3 => ?_⟩⟩⟩
 clear done
 have h1 := of_decide_eq_false h1
 have h2 := of_decide_eq_false h2
 have h3 := of_decide_eq_false h3
 have hl : l.length ≤ 200 := by omega
 obtain ⟨n, rfl⟩ : ∃ n : Nat, (n : Int) = p := ⟨p.toNat, by omega⟩
 have hn : n < l.length := by omega
 have hn1 : ((n : Nat) : Int).toNat = n := by omega
 refine call_base (vs := [.slice B l.length bc]) rfl (R := fun W v W' => ∃ u, v = .tuple #[u, .int .i64 0] ∧ PartsR l W u W') (fun W hW => parts17 l B bc W (by omega) (hB.keep hW.fresh') (hG.keep hW.fresh')) (fun _ _ _ h => by obtain ⟨_, _, _, _, _, _, _, _, _, _, h⟩ := h; exact h) fun W2 v W3 hW2 ⟨u, hv, pA, pc, ps, hu, k1, k2, k3, k5, k4⟩ ov => ?_
 subst hv; subst hu
 have hw2 : Fresh w W3 := Fresh.tr hW2.fresh' k4
 have hst : ∀ j ∈ fps [SO.cells g 50 [.val (uV r0), .val (uV r1), .val (uV r2), .val (uV r3), .val (uV r4), .val (uV r5), .val (uV r6), .val (uV r7)]], j < W2.heap.size := fun j hj => hW2.fps_lt hj
 have hgw : w.heap.size ≤ g := hW2.newer (i := 0) rfl rfl
 rw [show fps [SO.cells g 50 [.val (.int .u64 r0), .val (.int .u64 r1), .val (.int .u64 r2), .val (.int .u64 r3), .val (.int .u64 r4), .val (.int .u64 r5), .val (.int .u64 r6), .val (.int .u64 r7)]] = [g] from rfl] at *
 have kp : RowE ⟨W3, W3.heap.size, [g], 168, []⟩ pA (cellsR ps) := ownsB_rowE k2 hst 168 []
 have kn : NxE ⟨W3, W3.heap.size, [g], 168, []⟩ ps := k3.toN k5 hst 168 []
 have kB : RowE ⟨W3, W3.heap.size, [g], 168, []⟩ B (cellsI l) := (hB.toE (by simp) 168 []).over ov
 have kG : RowE ⟨W3, W3.heap.size, [g], 168, []⟩ (some ⟨0, 0, none⟩) shL := (RowAt.toE hG (by simp) 168 []).over ov
 have back : ∀ {H : List SO} {W : World}, HeapOk ⟨W3, W3.heap.size, [g], 168, []⟩ H W → Fresh w W := fun h => (ov.heap h).fresh'
 clear hst k2 k3 k5 k4 hW2 hw2 ov
 refine ⟨.tup [.val (.slice pA ps.length pc), .val (.int .i64 0)], by simp [Is, IsL], ?_⟩
 (refine Y_go 600 ?_; dsimp only [zq8t, Y_k, zq4u, zq8o, zq6n, Nat.reduceBEq, zq6k, YK, zq5j, zq2f, nth, zq2e, zq6l, zq9i, normF, zq6m, zq86, zq8a, zq87, zq89, zq8c, zq88, zq9y, t11n14, T11n14, zq9r, zq9q, zq9j])
 have hae : atE l.length (n : Int) = true := by unfold atE; simp; omega
 refine call_val (vs := [.slice B l.length bc, .int .i64 (n : Int)]) rfl (fun W hW => at23 l B bc n W (kB.at hW) (kG.at hW) hp) fun v hv => ⟨.tup [.val (.int .i64 (atL l n : Int)), .val (.int .i64 0)], by rw [hv, hae, hn1]; simp [Is, IsL], ?_⟩
 (refine Y_go 44 ?_; dsimp only [zq8t, Y_k, zq4u, zq8o, zq6n, Nat.reduceBEq, zq6k, YK, zq5j, zq2f, nth, zq2e, zq6l, zq9i, normF, zq6m, zq86, zq8a, zq87, zq89, zq8c, zq88, zq9y, t11n13, T11n13, zq9r, zq9q, zq50, zq8p, zq6q, zq04, zq92, zq9b, zq0i, zq9d, Y_gk, zq6e, YS, zq6a, zq4v, zq6o, zq0b, zq9s, zq6f, YC, t11n1, T11n1, Y_0, YR, zq6c, zq9e, zq0c, zq55, zq0r, zq9h, zq58, zq06, zq0w, zq5a, zq16, Nat.add_zero, zq5c, zq1p, zq1c, List.nil_append, zq1b, zq18, zq6h, zq8x, zq9p])
 obtain ⟨x, hx, hx1, hx2, _⟩ := at_part hn
 have hpl := partsR_len k1
 have hk : atL l n < ps.length := by rw [hpl]; exact (List.getElem?_eq_some_iff.1 hx).1
 have hpr : ps[atL l n]? = some ps[atL l n] := List.getElem?_eq_getElem hk
 have hpa : (ps[atL l n]).pa = partL l (bgL l) (atL l n) := by
  have h := congrArg (fun z => z[atL l n]?) k1
  simp only [List.getElem?_map, hpr, Option.map_some] at h
  rw [partsL_get (by omega)] at h
  injection h
 have hlast : n + 1 = toL l.length (bgL l) (atL l n) → True := fun _ => trivial
 generalize hpe : ps[atL l n] = pr at hpr hpa
 have hprm : pr ∈ ps := List.mem_of_getElem? hpr
 have efr : pr.pa.fr = x := by rw [hpa]; show (bgL l).getD _ 0 = x; rw [List.getD_eq_getElem?_getD, hx]; rfl
 have eto : pr.pa.to = toL l.length (bgL l) (atL l n) := by rw [hpa]; rfl
 have enx : pr.pa.nx = nxL l (bgL l) (toL l.length (bgL l) (atL l n)) := by rw [hpa]; rfl
 have hbn := bgL_len l
 generalize hke : atL l n = k at *
 have hk1 : ((k : Nat) : Int).toNat = k := by omega
 have q0 : CellAt ⟨W3, W3.heap.size, [g], 168, []⟩ pA (k * 3) (.int .i64 x) := by rw [← efr]; exact kp.cell (by have := cellsR_get (k := 0) hpr (by omega); rw [Nat.add_zero] at this; rw [this]; rfl)
 have q1 : CellAt ⟨W3, W3.heap.size, [g], 168, []⟩ pA (k * 3 + 1) (.int .i64 (toL l.length (bgL l) k)) := by rw [← eto]; exact kp.cell (by rw [cellsR_get hpr (by omega)]; rfl)
 have q2 : CellAt ⟨W3, W3.heap.size, [g], 168, []⟩ pA (k * 3 + 2) (.slice pr.A pr.pa.nx.length pr.c) := kp.cell (by rw [cellsR_get hpr (by omega)]; rfl)
 have sA : pA.isSome = true := by obtain ⟨a, rfl, _⟩ := q0; rfl
 have hfr : ∀ m, m < ps.length → ∃ z, (bgL l)[m]? = some z ∧ CellAt ⟨W3, W3.heap.size, [g], 168, []⟩ pA (m * 3) (.int .i64 z) := by
  intro m hm
  have h1 : ps[m]? = some ps[m] := List.getElem?_eq_getElem hm
  have h2 : (ps[m]).pa = partL l (bgL l) m := by
   have h := congrArg (fun z => z[m]?) k1
   simp only [List.getElem?_map, h1, Option.map_some] at h
   rw [partsL_get (by omega)] at h
   injection h
  have h3 : (bgL l)[m]? = some (bgL l)[m] := List.getElem?_eq_getElem (by omega)
  refine ⟨_, h3, kp.cell ?_⟩
  have := cellsR_get (k := 0) h1 (by omega)
  rw [Nat.add_zero] at this
  rw [this]
  show some (Value.int .i64 (ps[m]).pa.fr) = _
  rw [h2]
  show some (Value.int .i64 ((bgL l).getD m 0)) = _
  rw [List.getD_eq_getElem?_getD, h3]; rfl
 have hnxr : ∀ m ∈ pr.pa.nx, 0 ≤ m ∧ m < ps.length := fun m hm => by rw [enx] at hm; rw [hpl]; exact nxL_range hx hm
 have knx : RowE ⟨W3, W3.heap.size, [g], 168, []⟩ pr.A (isV pr.pa.nx) := kn pr hprm
 have hnl : pr.pa.nx.length ≤ 2 := by rw [enx]; exact nxL_len _ _ _
 have bd : (0 : Int) ≤ (k : Int) ∧ (k : Int) < (ps.length : Int) ∧ pA.isSome = true := ⟨by omega, by omega, sA⟩
 rw [hk1]
 refine ⟨fun h => absurd h (by decide), fun _ => ⟨fun h => absurd (of_decide_eq_true h) (by omega), fun _ => ⟨fun h => absurd (of_decide_eq_true h) (by omega), fun _ => ⟨bd, sA, x, q0, fun h => absurd (of_decide_eq_true h) (by omega), fun _ => ⟨bd, sA, _, q1, fun h => absurd (of_decide_eq_true h) (by omega), fun _ => ?_⟩⟩⟩⟩⟩
 have hy : l[n]? = some l[n] := List.getElem?_eq_getElem hn
 have cl : ∀ k v, k < 5 → (l[n]).cells[k]? = some v → CellAt ⟨W3, W3.heap.size, [g], 168, []⟩ B (n * 5 + k) v := fun k v hk hv => kB.cell (by rw [cellsI_get l hn hk]; exact hv)
 have sB : B.isSome = true := kB.isSome (j := n * 5) (by rw [cellsI_len]; omega)
 generalize l[n] = y at hy cl
 have hQ : NoPanic (endPost Tryz.prog Tryz.f11 R) := endPost_noPanic _ _ _
 have hdo := fun W hW => do24 y [r0, r1, r2, r3, r4, r5, r6, r7] n W hW rfl hU
 have hmid : (n : Int) + 1 < toL l.length (bgL l) k → (doB y [r0, r1, r2, r3, r4, r5, r6, r7] n).kind ≠ 0 ∧ (doB y [r0, r1, r2, r3, r4, r5, r6, r7] n).kind ≠ 7 ∧ (doB y [r0, r1, r2, r3, r4, r5, r6, r7] n).next = (n : Int) + 1 := fun h => do_mid (at_mid hy hx hx1 h) (by omega)
 have hend : (n : Int) + 1 = toL l.length (bgL l) k → (doB y [r0, r1, r2, r3, r4, r5, r6, r7] n).kind ≠ 0 → (doB y [r0, r1, r2, r3, r4, r5, r6, r7] n).kind ≠ 7 → (doB y [r0, r1, r2, r3, r4, r5, r6, r7] n).next < l.length → ∃ m : Nat, (m : Int) ∈ pr.pa.nx ∧ (bgL l)[m]? = some (doB y [r0, r1, r2, r3, r4, r5, r6, r7] n).next := by
  intro h h0 h7 hlt
  rw [enx]
  exact at_end (by omega) hy hx h h0 h7 hlt
 generalize hee : doB y [r0, r1, r2, r3, r4, r5, r6, r7] n = e at hdo hmid hend
 have cont : ∀ g12, G (cxOf Tryz.prog Tryz.f11 K11 T11 R) ⟨W3, W3.heap.size, [g], 168, []⟩ [.code (.ref 12)] { F := [(0, .val (.slice B l.length bc)), (2, .val (.int .i64 (n : Int))), (6, .bf), (7, .bt), (8, .val (.slice pA ps.length pc)), (10, .val (.int .i64 (k : Int))), (11, .val (.int .i64 0)), (12, .ptr 1 0)], H := [.cells g 50 [.val (.int .u64 r0), .val (.int .u64 r1), .val (.int .u64 r2), .val (.int .u64 r3), .val (.int .u64 r4), .val (.int .u64 r5), .val (.int .u64 r6), .val (.int .u64 r7)], .cells g12 54 [.val (.int .i64 e.kind), .val (.int .i64 e.next), .val (.int .i64 e.reg), .val (.int .u64 e.value), .val (.int .u64 e.addr)]] } := by
  intro g12
  (refine Y_go 600 ?_; dsimp only [zq9y, t11n12, T11n12, zq9r, zq9q, Y_k, zq4u, zq8o, zq6n, Nat.reduceBEq, zq6l, zq6k, YK, zq8t, zq4w, zq8p, zq6q, zq04, zq92, zq9b, zq0e, zq58, zq06, zq0w, zq5a, zq16, zq5c, zq1p, zq1c, List.nil_append, zq1b, zq18, zq50, zq0i, zq9e, zq9i, normF, zq6m, zq86, zq87, zq8c, zq89, zq8a, zq9s, zq6h, zq8x, YC, t11n2, T11n2, Y_gk, zq69, YR, zq14, Nat.add_zero, zq1o, nth, zq1k, List.length_cons, List.length_nil, Nat.reduceAdd, dropL, takeL, zq19, zq9d, zq4v, zq6p, zq0b, zq6d, zq9c, zq9x, YS, zq6b, zq0c, zq9p, t11n11, T11n11, zq6e, zq6a, zq6o, zq6f, t11n3, T11n3, zq6c, zq55, zq0r, zq9h, t11n10, T11n10, t11n9, T11n9, zq9t, zq9v])
  have done : ∀ F H, denAll H F [6] = some [.bool true] → RetG (cxOf Tryz.prog Tryz.f11 K11 T11 R) ⟨W3, W3.heap.size, [g], 168, []⟩ { F := F, H := H } := fun F H hd =>
   ret_rule (vs := [.bool true]) r11 rfl hd fun W hW => hR _ _ ⟨back hW, rfl⟩
  rw [hk1]
  refine ⟨((n + 1 : Nat) : Int), ArOk.to (by omega) (by omega) (by omega), bd, sA, _, q1, fun hlt => ?_, fun hge => ?_⟩
  ·obtain ⟨m0, m7, mn⟩ := hmid (by have := of_decide_eq_true hlt; omega)
   refine ⟨fun _ => ⟨fun _ => ⟨((n + 1 : Nat) : Int), ArOk.to (by omega) (by omega) (by omega), done _ _ ?_⟩, fun h => absurd h (by simpa using m7)⟩, fun h => absurd h (by simpa using m0)⟩
   have : (e.next == ((n + 1 : Nat) : Int)) = true := by rw [mn]; simp
   show some [Value.bool (e.next == ((n + 1 : Nat) : Int))] = _
   rw [this]
  ·have hto : (n : Int) + 1 = toL l.length (bgL l) k := by have := of_decide_eq_false hge; omega
   have hend := hend hto
   refine ⟨fun _ => done _ _ rfl, fun h0 => ⟨fun _ => done _ _ rfl, fun h7 => ⟨fun _ => done _ _ rfl, fun hlt => ?_⟩⟩⟩
   obtain ⟨m, hm, hmb⟩ := hend (by simpa using h0) (by simpa using h7) (by have := of_decide_eq_false hlt; omega)
   clear hend hmid
   refine loop_go (α := Nat) (fun i => i ≤ pr.pa.nx.length) (fun _ => ⟨W3, W3.heap.size, [g], 168, []⟩) (fun i => { F := [(14, .val (.int .i64 (i : Int))), (13, bsv ((pr.pa.nx.take i).any fun m => (bgL l)[m.toNat]? == some e.next)), (0, .val (.slice B l.length bc)), (2, .val (.int .i64 (n : Int))), (7, .bt), (8, .val (.slice pA ps.length pc)), (10, .val (.int .i64 (k : Int))), (12, .ptr 1 0)], H := [.cells g 50 [.val (.int .u64 r0), .val (.int .u64 r1), .val (.int .u64 r2), .val (.int .u64 r3), .val (.int .u64 r4), .val (.int .u64 r5), .val (.int .u64 r6), .val (.int .u64 r7)], .cells g12 54 [.val (.int .i64 e.kind), .val (.int .i64 e.next), .val (.int .i64 e.reg), .val (.int .u64 e.value), .val (.int .u64 e.addr)]] }) (fun i => pr.pa.nx.length - i) (fun _ => rfl) ?start ?round
   case start =>
    intro a W rep
    exact ⟨0, Nat.zero_le _, rep.le (by simp only [List.take_zero, List.any_nil, bsv]; (simp only [setn, List.nil_append, List.cons_append, leF, leH_nil, leH_cons, leF_nil, lk, scp, scpL, scpO, resF, resH, resO, resV, resVL, nth, Nat.reduceBEq, Nat.reduceLT, decide_true, decide_false, List.length, List.length_cons, List.length_nil, Nat.reduceAdd, Bool.and_self, Bool.and_true, and_true, true_and, numF] <;> try simp)) (by (simp only [setn, List.nil_append, List.cons_append, leF, leH_nil, leH_cons, leF_nil, lk, scp, scpL, scpO, resF, resH, resO, resV, resVL, nth, Nat.reduceBEq, Nat.reduceLT, decide_true, decide_false, List.length, List.length_cons, List.length_nil, Nat.reduceAdd, Bool.and_self, Bool.and_true, and_true, true_and, numF] <;> try simp))⟩
   case round =>
    intro i hi I again
    have hi : i ≤ pr.pa.nx.length := hi
    have stp : ∀ z, pr.pa.nx[i]? = some z → ((pr.pa.nx.take (i + 1)).any fun m => (bgL l)[m.toNat]? == some e.next) = (((pr.pa.nx.take i).any fun m => (bgL l)[m.toNat]? == some e.next) || (bgL l)[z.toNat]? == some e.next) := fun z hz => by
     rw [takeI_snoc hz, List.any_append]; simp
    have hfin : ((pr.pa.nx.take pr.pa.nx.length).any fun m => (bgL l)[m.toNat]? == some e.next) = true := by
     rw [List.take_length, List.any_eq_true]
     exact ⟨(m : Int), hm, by simp [hmb]⟩
    have hi1 : ((i : Nat) : Int).toNat = i := by omega
    have nc : i < pr.pa.nx.length → ∃ z, pr.pa.nx[i]? = some z ∧ CellAt ⟨W3, W3.heap.size, [g], 168, []⟩ pr.A (i * 1) (.int .i64 z) ∧ pr.A.isSome = true ∧ 0 ≤ z ∧ z < ps.length := fun h => by
     have hz : pr.pa.nx[i]? = some pr.pa.nx[i] := List.getElem?_eq_getElem h
     have hz2 := hnxr _ (List.getElem_mem h)
     exact ⟨_, hz, knx.cell (by rw [Nat.mul_one]; exact isV_get _ _ _ hz), knx.isSome (j := i) (by rw [isV_len]; exact h), hz2⟩
    generalize hd : ((pr.pa.nx.take i).any fun m => (bgL l)[m.toNat]? == some e.next) = d at stp
    cases d with
    | true =>
     simp only [bsv]
     (refine Y_go 600 ?_; dsimp only [zq9y, t11n7, T11n7, zq9r, zq9q, Y_k, zq4u, zq8o, zq6n, Nat.reduceBEq, zq6k, YK, zq8t, zq6l, zq58, zq06, zq0w, zq5a, zq16, zq5c, zq1p, zq1g, List.nil_append, zq1b, zq18, zq55, zq0r, zq50, zq04, zq92, zq9b, zq0i, zq9e, zq9i, normF, zq6m, zq87, zq86, zq89, zq8c, zq9s, zq6h, zq8x, YC, zq9p, t11n6, T11n6, zq9t, zq1c, t11n4, T11n4, Y_gk, zq6a, YS, zq02, zq4v, zq8p, zq6o, zq0b, zqa1, t11n5, T11n5, zq4w, zq6q, zq0e, zqa2, zq9u, popTo, zq6i, YP, t11n8, T11n8, zq69, YR, zq6p, zq8a, zq9x])
     rw [hk1, hi1]
     refine ⟨bd, sA, _, _, _, q2, fun hlt => ?_, fun _ => done _ _ rfl⟩
     have hlt : i < pr.pa.nx.length := by have := of_decide_eq_true hlt; omega
     obtain ⟨z, hz, qz, sz, hz0, hz1⟩ := nc hlt
     refine ⟨bd, sA, _, _, _, q2, ⟨by omega, by omega, sz⟩, z, qz, ((i + 1 : Nat) : Int), ArOk.to (by omega) (by omega) (by omega), lend_rule fun a W rep => again (i + 1) (by show i + 1 ≤ _; omega) (by show _ - (i + 1) < _ - i; omega) a W (rep.le ?_ (by (simp only [setn, List.nil_append, List.cons_append, leF, leH_nil, leH_cons, leF_nil, lk, scp, scpL, scpO, resF, resH, resO, resV, resVL, nth, Nat.reduceBEq, Nat.reduceLT, decide_true, decide_false, List.length, List.length_cons, List.length_nil, Nat.reduceAdd, Bool.and_self, Bool.and_true, and_true, true_and, numF] <;> try simp)))⟩
     rw [stp z hz, Bool.true_or]
     simp only [bsv]
     (simp only [setn, List.nil_append, List.cons_append, leF, leH_nil, leH_cons, leF_nil, lk, scp, scpL, scpO, resF, resH, resO, resV, resVL, nth, Nat.reduceBEq, Nat.reduceLT, decide_true, decide_false, List.length, List.length_cons, List.length_nil, Nat.reduceAdd, Bool.and_self, Bool.and_true, and_true, true_and, numF] <;> try simp)
    | false =>
     simp only [bsv]
     (refine Y_go 600 ?_; dsimp only [zq9y, t11n7, T11n7, zq9r, zq9q, Y_k, zq4u, zq8o, zq6n, Nat.reduceBEq, zq6k, YK, zq8t, zq6l, zq58, zq06, zq0w, zq5a, zq16, zq5c, zq1p, zq1g, List.nil_append, zq1b, zq18, zq55, zq0r, zq50, zq04, zq92, zq9b, zq0i, zq9e, zq9i, normF, zq6m, zq87, zq86, zq8a, zq8c, zq89, zq9s, zq6h, zq8x, YC, zq9p, t11n6, T11n6, zq9t, zq1c, t11n4, T11n4, Y_gk, zq6c, YR, zq8p, zq6q, zq9h, zq6d, zq69, zq4v, zq6p, zq0b, Nat.add_zero, zq14, Nat.reduceAdd, zq1o, nth, zq1k, List.length_cons, List.length_nil, dropL, takeL, zq19, zq9c, zq6o, zq0c, zqa1, t11n5, T11n5, zq4w, zq0e, zqa2, YS, zq6b, zq9u, popTo, zq6i, YP, t11n8, T11n8, zq9x])
     rw [hk1, hi1]
     refine ⟨bd, sA, _, _, _, q2, fun hlt => ?_, fun hge => ?_⟩
     ·have hlt : i < pr.pa.nx.length := by have := of_decide_eq_true hlt; omega
      obtain ⟨z, hz, qz, sz, hz0, hz1⟩ := nc hlt
      obtain ⟨u, hu, qu⟩ := hfr z.toNat (by omega)
      refine ⟨bd, sA, _, _, _, q2, ⟨by omega, by omega, sz⟩, z, qz, fun _ => ⟨fun _ => ⟨⟨hz0, hz1, sA⟩, sA, u, qu, ((i + 1 : Nat) : Int), ArOk.to (by omega) (by omega) (by omega), lend_rule fun a W rep => again (i + 1) (by show i + 1 ≤ _; omega) (by show _ - (i + 1) < _ - i; omega) a W ?_⟩, fun h => absurd (of_decide_eq_false h) (by omega)⟩, fun h => absurd (of_decide_eq_false h) (by omega)⟩
      rw [stp z hz, hu, Bool.false_or]
      have eb : (some u == some e.next) = (u == e.next) := rfl
      rw [eb]
      have rep1 := rep_bool 13 rep rfl
      generalize (u == e.next) = d2 at rep1 ⊢
      cases d2 <;> exact rep1.le (by simp only [bsv]; (simp only [setn, List.nil_append, List.cons_append, leF, leH_nil, leH_cons, leF_nil, lk, scp, scpL, scpO, resF, resH, resO, resV, resVL, nth, Nat.reduceBEq, Nat.reduceLT, decide_true, decide_false, List.length, List.length_cons, List.length_nil, Nat.reduceAdd, Bool.and_self, Bool.and_true, and_true, true_and, numF] <;> try simp)) (by (simp only [setn, List.nil_append, List.cons_append, leF, leH_nil, leH_cons, leF_nil, lk, scp, scpL, scpO, resF, resH, resO, resV, resVL, nth, Nat.reduceBEq, Nat.reduceLT, decide_true, decide_false, List.length, List.length_cons, List.length_nil, Nat.reduceAdd, Bool.and_self, Bool.and_true, and_true, true_and, numF] <;> try simp))
     ·have hil : i = pr.pa.nx.length := by have := of_decide_eq_false hge; omega
      subst hil
      rw [hfin] at hd
      cases hd
 (refine alt_y rfl hQ 600 ?_; dsimp only [YT_k, zq8t, YT_alt, YT_call, zq5e, List.map, zq6q, zq5c, zq8o, zq6n, Nat.reduceBEq, zq6l, zq6k, zq1o, zq4u, zq58, zq06, zq0w, zq1p, zq1c, List.nil_append, List.cons_append, zq1b, zq17, nth, zq1k, List.length_cons, List.length_nil, Nat.reduceAdd, dropL, takeL, zq19])
 rw [hn1]
 refine ⟨⟨by omega, by omega, sB⟩, _, cl 0 _ (by omega) rfl, _, cl 1 _ (by omega) rfl, _, cl 2 _ (by omega) rfl, _, cl 3 _ (by omega) rfl, _, cl 4 _ (by omega) rfl, ?_, fun g12 => ?_⟩
 ·refine GT_call_val (vs := [In.val y, .agg #[.int .u64 r0, .int .u64 r1, .int .u64 r2, .int .u64 r3, .int .u64 r4, .int .u64 r5, .int .u64 r6, .int .u64 r7], .int .i64 (n : Int)]) rfl (fun W hW => hdo W (kG.at hW)) fun v hv => ⟨.agg [.val (.int .i64 e.kind), .val (.int .i64 e.next), .val (.int .i64 e.reg), .val (.int .u64 e.value), .val (.int .u64 e.addr)], by rw [hv]; exact Ef.is _ e, ?_⟩
  (refine gt_y rfl hQ 0 ?_; dsimp only [zq8t, YT_k, zq8s, YT_done, normF, zq6n, Nat.reduceBEq, zq6l, zq6k, zq6m, zq86, zq88, zq87, zq8d, zq8a, zq89, zq8c, Y_0, zq5d, zq8o, zq7t, List.length_cons, List.length_nil, Nat.reduceAdd, zq8l, zq73, zq8m, zq8k, zq0a, zq5e, List.map, zq6q, List.cons_append, List.nil_append, zq1x, nth, zq1t, dropL, takeL, zq1r, splice, setn])
  exact fun g12 a W rep => cont g12 a W (rep.le (by (simp only [setn, List.nil_append, List.cons_append, leF, leH_nil, leH_cons, leF_nil, lk, scp, scpL, scpO, resF, resH, resO, resV, resVL, nth, Nat.reduceBEq, Nat.reduceLT, decide_true, decide_false, List.length, List.length_cons, List.length_nil, Nat.reduceAdd, Bool.and_self, Bool.and_true, and_true, true_and, numF] <;> try simp)) (by (simp only [setn, List.nil_append, List.cons_append, leF, leH_nil, leH_cons, leF_nil, lk, scp, scpL, scpO, resF, resH, resO, resV, resVL, nth, Nat.reduceBEq, Nat.reduceLT, decide_true, decide_false, List.length, List.length_cons, List.length_nil, Nat.reduceAdd, Bool.and_self, Bool.and_true, and_true, true_and, numF] <;> try simp)))
 ·refine GT_call_val (vs := [In.val y, .agg #[.int .u64 r0, .int .u64 r1, .int .u64 r2, .int .u64 r3, .int .u64 r4, .int .u64 r5, .int .u64 r6, .int .u64 r7], .int .i64 (n : Int)]) rfl (fun W hW => hdo W (kG.at hW)) fun v hv => ⟨.agg [.val (.int .i64 e.kind), .val (.int .i64 e.next), .val (.int .i64 e.reg), .val (.int .u64 e.value), .val (.int .u64 e.addr)], by rw [hv]; exact Ef.is _ e, ?_⟩
  (refine gt_y rfl hQ 0 ?_; dsimp only [zq8t, YT_k, zq8s, YT_done, normF, zq6n, Nat.reduceBEq, zq6l, zq6k, zq6m, zq86, zq88, zq87, zq8d, zq8a, zq8c, zq89, Y_0, zq5d, zq8o, zq7t, List.length_cons, List.length_nil, Nat.reduceAdd, zq8l, zq73, zq8m, zq8k, zq0a, zq1x, nth, zq1t, dropL, takeL, zq1r, splice, setn])
  exact fun a W rep => cont g12 a W (rep.le (by (simp only [setn, List.nil_append, List.cons_append, leF, leH_nil, leH_cons, leF_nil, lk, scp, scpL, scpO, resF, resH, resO, resV, resVL, nth, Nat.reduceBEq, Nat.reduceLT, decide_true, decide_false, List.length, List.length_cons, List.length_nil, Nat.reduceAdd, Bool.and_self, Bool.and_true, and_true, true_and, numF] <;> try simp)) (by (simp only [setn, List.nil_append, List.cons_append, leF, leH_nil, leH_cons, leF_nil, lk, scp, scpL, scpO, resF, resH, resO, resV, resVL, nth, Nat.reduceBEq, Nat.reduceLT, decide_true, decide_false, List.length, List.length_cons, List.length_nil, Nat.reduceAdd, Bool.and_self, Bool.and_true, and_true, true_and, numF] <;> try simp)))
end Go.Proofs.YtlbiogokpadaoaaGreatDoor
