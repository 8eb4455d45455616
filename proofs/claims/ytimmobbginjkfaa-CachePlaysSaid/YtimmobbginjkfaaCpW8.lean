/- CachePlays: the law's function. -/
import Derived.Test.YtimmobbginjkfaaCpW7
import Derived.Test.YtimmobbginjkfaaCaW11
import Derived.Test.YtimmobbginjkfaaCaCodeL
set_option linter.unusedSimpArgs false
set_option linter.unusedVariables false
set_option linter.unnecessarySimpa false
namespace Go.Proofs.Ytimmobbginjkfaa
open Go Go.Sx Go.Ca
set_option maxRecDepth 100000
theorem call_both {C : Cx} {E : Env} {d : Option Nat} {f : FuncId} {args : List Operand} {l : List XS} {k : List KI} {F : List (Nat × SV)} {vs : List Value} (gc gs gw : Nat) (c c' : Ca) (A : Option Addr) (cc : Nat) (D D' : Dc) (r : List SO) (hP : C.P = Try.prog) (hargs : denL (bothF gc gs gw c 0 A cc D ++ r) (evL F args) = some vs)
  (hc : ∀ W, HeapOk E (bothF gc gs gw c 0 A cc D ++ r) W → HeapOk ⟨W, W.heap.size, fps (bothF gc gs gw c 0 A cc D), 0, []⟩ (bothF gc gs gw c 0 A cc D) W → CallsV Try.prog f vs W fun v1 W' => v1 = .bool true ∧ ∃ v' A' cc', HeapOk ⟨W, W.heap.size, fps (bothF gc gs gw c 0 A cc D), 0, []⟩ (bothF gc gs gw c' v' A' cc' D') W')
  (next : ∀ A' cc', G C E (.ops l :: k) { F := putF F d (.val (.bool true)), H := bothF gc gs gw c' 1 A' cc' D' ++ r }) :
  G C E (.ops ({ dst := d, guard := none, i := .call f args } :: l) :: k) { F := F, H := bothF gc gs gw c 0 A cc D ++ r } := by
 refine call_rule hargs (R := fun W v1 W' => v1 = .bool true ∧ ∃ v' A' cc', HeapOk ⟨W, W.heap.size, fps (bothF gc gs gw c 0 A cc D), 0, []⟩ (bothF gc gs gw c' v' A' cc' D') W') (fun W hW => ?_) fun W v1 W' hW hr => ?_
 ·rw [hP]
  exact hc W hW (hW.lend (both_pre gc gs gw c 0 A cc D) 0 [])
 ·obtain ⟨rfl, v', A', cc', hk⟩ := hr
  have x1 : HExt (bothF gc gs gw c 0 A cc D) (bothF gc gs gw c' 1 A' cc' D') := (HExt.front (dcS 2 gw 0 A cc D ++ []) (caF_ext gc gs c c') rfl).trans' (dc_ext (caF gc gs c') [] gw 0 1 A A' cc cc' D D' (by decide))
  have x2 : HExt (bothF gc gs gw c 0 A cc D ++ r) (bothF gc gs gw c' 1 A' cc' D' ++ r) := HExt.front r x1 rfl
  refine ⟨.val (.bool true), _, by simp [Is], x2, ?_, next A' cc'⟩
  refine heapMid (X := []) (Y := bothF gc gs gw c 0 A cc D) (r := r) (L := bothF gc gs gw c 0 A cc D) (Z := bothF gc gs gw c' v' A' cc' D') (Z' := bothF gc gs gw c' 1 A' cc' D') hW rfl hk rfl x2 fun e he => ?_
  rcases List.mem_append.1 he with h | h
  ·have h1 := (hk.pre (H' := caF gc gs c') (r := dcS 2 gw v' A' cc' D' ++ []) (caF_pre gc gs c')).ent h
   exact h1.mono (HExt.app (caF gc gs c') (dcS 2 gw 1 A' cc' D' ++ r)) fun _ _ => rfl
  ·have h : e ∈ dcS 2 gw 1 A' cc' D' := by simpa using h
   exact dc_ent (X0 := caF gc gs c') (r0 := []) (X := caF gc gs c') (r := r) (v' := 1) (fun e he => hk.ent (e := e) (by
    show e ∈ caF gc gs c' ++ (dcS 2 gw v' A' cc' D' ++ [])
    exact List.mem_append_right _ (List.mem_append_left _ he))) e h
theorem hl_zero {c : Ca} (h : ∀ j, c.sl j = zE) : ∀ i, hlTo c i = []
 | 0 => rfl
 | i + 1 => by rw [hlTo_succ, hl_zero h i, if_neg (by rw [h i]; simp [zE])]; rfl
theorem dc_own {H : List SO} {x y z : Value} (hi : nth H 3 = some (.own 44 0 21 none 0 0 [])) : ∀ vs, IsL H [.val x, .val y, .val (.slice none 0 0), .val z] vs → IsL H [.val x, .val y, .own 3 0, .val z] vs := by
 intro vs h
 simp only [IsL, Is] at h ⊢
 obtain ⟨_, _, rfl, ⟨_, _, rfl, ⟨_, _, rfl, r⟩, rfl⟩, rfl⟩ := h
 exact ⟨_, _, rfl, ⟨_, _, rfl, ⟨_, _, ⟨_, _, _, _, _, _, _, hi, Nat.le_refl _, ⟨_, _, _, rfl⟩, fun _ => rfl⟩, r⟩, rfl⟩, rfl⟩
theorem law4 (sets ways : Int) (A : Option Addr) (ac : Nat) (l : List Sp) (w : World) (hA : RowAt w A (cellsS l)) :
  CallsV Try.prog 4 [.int .i64 sets, .int .i64 ways, .slice A l.length ac] w fun v w' => v = .bool true ∧ Fresh w w' := by
 refine calls_go (keep := K4) (nt := 83) (svs := [.val (.int .i64 sets), .val (.int .i64 ways), .val (.slice A l.length ac)]) Try.func4 x4 n4 (by simp) (by simp [IsL, Is]) fun R hR => ?_
 (refine Y_go 600 ?_; dsimp only [X4, numF, Nat.reduceAdd, zq9r, zq9q, Y_k, zq4u, zq8p, zq6p, YK, zq8t, zq9i, normF, zq6n, Nat.reduceBEq, zq6l, zq6k, zq6m, zq86, zq8a, zq87, zq9y, t4n18, T4n18, zq8o, zq55, zq0r, zq50, zq6q, zq04, zq92, zq9b, zq0i, zq9g, zq9s, zq6h, zq8x, YC, t4n0, T4n0, zq6o, zq89, zq9x, zq9p, t4n17, T4n17, zq9j])
 have yes : ∀ (E : Env) s, E.marks = [] → Over ⟨w, w.heap.size, [], 83, []⟩ E → denAll s.H s.F [6] = some [.bool true] → RetG (cxOf Try.prog Try.f4 K4 T4 R) E s := fun E s hm ho h1 => ret_rule (vs := [.bool true]) r4 hm h1 fun W hW => hR _ _ ⟨rfl, (ho.heap hW).fresh'⟩
 refine ⟨fun _ => yes _ _ rfl (Over.refl _) rfl, fun h1 => ?_⟩
 have hl : l.length ≤ 600 := by have := of_decide_eq_false h1; omega
 have hAE : RowE ⟨w, w.heap.size, [], 83, []⟩ A (cellsS l) := hA.toE (st := []) (by simp) 83 []
 have sA : 0 < l.length → A.isSome = true := fun h => RowE.isSome hAE (j := 0) (by rw [cellsS_len]; omega)
 refine call_rule (vs := [.int .i64 sets, .int .i64 ways]) rfl (R := fun W v W' => (newC sets ways = none ∧ v = .tuple #[.pointer none, .int .i64 2] ∧ Fresh W W') ∨ ∃ c gc gs, newC sets ways = some c ∧ v = .tuple #[.pointer (some ⟨gc, 0, none⟩), .int .i64 0] ∧ HeapOk ⟨W, W.heap.size, [], 28, []⟩ (caF gc gs c) W') (fun W hW => new8 sets ways W) fun W v W' hW hr => ?_
 rcases hr with ⟨hn, hv, hf⟩ | ⟨c, gc, gs, hn, hv, hh⟩
 ·have hb : newB sets ways = true := by
   unfold newC at hn
   split at hn
   ·assumption
   ·cases hn
  refine ⟨.tup [.val (.pointer none), .val (.int .i64 2)], _, by rw [hv]; simp [Is, IsL], HExt.refl _, hW.freshK hf, ?_⟩
  dsimp only [zq8t]
  (refine Y_go 600 ?_; dsimp only [Y_k, zq4u, zq8o, zq6n, Nat.reduceBEq, zq6k, YK, zq8t, zq5j, zq2f, nth, zq2e, zq6l, zq9i, normF, zq6m, zq86, zq8a, zq87, zq9y, t4n16, T4n16, zq9r, zq9q, zq9j])
  refine call_val (vs := [.int .i64 sets, .int .i64 ways]) rfl (R := fun v => v = .tuple #[.agg #[.int .i64 0, .int .i64 0, .slice none 0 0, .int .i64 0], .int .i64 2]) (fun W hW => (new16 sets ways W).mono fun v W' hv => ⟨by rw [hv.1, if_pos hb], hv.2⟩) fun v hv => ⟨.tup [.agg [.val (.int .i64 0), .val (.int .i64 0), .val (.slice none 0 0), .val (.int .i64 0)], .val (.int .i64 2)], by rw [hv]; simp [Is, IsL], ?_⟩
  dsimp only [zq8t]
  (refine Y_go 600 ?_; dsimp only [Y_k, zq4u, zq8o, zq6n, Nat.reduceBEq, zq6k, YK, zq8t, zq5j, zq2f, nth, zq2e, zq6l, zq5e, List.length_nil, List.map, zq6q, zq6u, List.nil_append, zq5d, zq7t, List.length_cons, Nat.reduceAdd, zq8l, zq73, zq8m, zq77, zq8k, zq0a, zq1x, zq1t, dropL, takeL, zq1r, splice, setn, zq8s, zq9i, normF, zq6m, zq86, zq8a, zq87, zq8c, zq9y, t4n15, T4n15, zq9r, zq9q, zq50, zq8p, zq04, zq92, zq9b, zq0i, zq9d, Y_gk, zq6e, YS, zq6a, zq4v, zq6o, zq0b, zq89, zq9s, zq6f, YC, t4n1, T4n1, zq9c, zq6d, YR, zq69, zq5t, zq3u, zq3q, zq6p, zq9x, zq6b, zq0c, zq6c, zq6h, zq8x, zq9p, t4n14, T4n14, zq9t, zq9v])
  intro g
  exact ⟨fun _ => ⟨fun _ => yes _ _ rfl (Over.refl _) rfl, fun h => absurd h (by decide)⟩, fun h => absurd h (by decide)⟩
 have hb : newB sets ways = false := by
  unfold newC at hn
  split at hn
  ·cases hn
  ·rename_i h; unfold newB; simpa using h
 refine ⟨.tup [.ptr 0 0, .val (.int .i64 0)], caF gc gs c, by rw [hv]; simp [Is, IsL, caF, blk, nth, SO.blk], HExt.nilTo _, heapJoin (H := []) (H2' := caF gc gs c) hW hh rfl fun e he => hh.ent he, ?_⟩
 clear hh hv hW
 have ok := newC_ok hn
 obtain ⟨hz, hu, hcs, hcw⟩ : (∀ j, c.sl j = zE) ∧ c.uses = 0 ∧ (c.sets : Int) = sets ∧ (c.ways : Int) = ways := by
  unfold newC at hn
  split at hn
  ·cases hn
  ·rename_i hc
   injection hn with hn; subst hn
   refine ⟨fun j => rfl, rfl, ?_⟩
   simp only [Bool.or_eq_true, decide_eq_true_eq] at hc
   constructor <;> simp <;> omega
 clear hn
 subst hcs
 subst hcw
 dsimp only [zq8t, caF]
 (refine Y_go 600 ?_; dsimp only [Y_k, zq4u, zq8o, zq6n, Nat.reduceBEq, zq6k, YK, zq8t, zq5j, zq2f, nth, zq2e, zq6l, zq9i, normF, zq6m, zq86, zq8a, zq87, zq8c, zq9y, t4n16, T4n16, zq9r, zq9q, zq9j])
 refine call_val (vs := [.int .i64 c.sets, .int .i64 c.ways]) rfl (R := fun v => v = .tuple #[.agg #[.int .i64 c.sets, .int .i64 c.ways, .slice none 0 0, .int .i64 0], .int .i64 0]) (fun W hW => (new16 c.sets c.ways W).mono fun v W' hv => ⟨by rw [hv.1, if_neg (by rw [hb]; simp)], hv.2⟩) fun v hv => ⟨.tup [.agg [.val (.int .i64 c.sets), .val (.int .i64 c.ways), .val (.slice none 0 0), .val (.int .i64 0)], .val (.int .i64 0)], by rw [hv]; simp [Is, IsL], ?_⟩
 dsimp only [zq8t]
 (refine Y_go 600 ?_; dsimp only [Y_k, zq4u, zq8o, zq6n, Nat.reduceBEq, zq6k, YK, zq8t, zq5j, zq2f, nth, zq2e, zq6l, zq5e, List.length_cons, List.length_nil, Nat.reduceAdd, List.map, zq6q, zq6u, List.cons_append, List.nil_append, zq5d, zq7t, zq8l, zq73, zq8m, zq77, zq8k, zq0a, zq1x, zq1t, dropL, takeL, zq1r, splice, setn, zq8s, zq9i, normF, zq6m, zq86, zq8a, zq87, zq8c, zq9y, t4n15, T4n15, zq9r, zq9q, zq50, zq8p, zq04, zq92, zq9b, zq0i, zq9d, Y_gk, zq6e, YS, zq6a, zq4v, zq6o, zq0b, zq89, zq9s, zq6f, YC, t4n1, T4n1, zq9c, zq6d, YR, zq69, zq5t, zq3s, zq3q, zq6p, zq9x, zq6b, zq0c, zq6c, zq6h, zq8x, zq9p, t4n14, T4n14, zq9t, zq9v])
 intro gw
 refine ⟨fun h => absurd h (by decide), fun _ => ⟨fun h => absurd h (by decide), fun _ => ?_⟩⟩
 have yes1 : ∀ s, denAll s.H s.F [6] = some [.bool true] → RetG (cxOf Try.prog Try.f4 K4 T4 R) ⟨w, w.heap.size, [], 83, []⟩ s := fun s h1 => yes _ s rfl (Over.refl _) h1
 refine loop_go (α := Nat × Option Addr × Nat × Dc) (fun q => q.1 ≤ l.length ∧ CaOk (playC c (l.take q.1)) ∧ Inv (playC c (l.take q.1)) ∧ St (playC c (l.take q.1)) ∧ Rel (playC c (l.take q.1)) q.2.2.2 ∧ (playC c (l.take q.1)).uses ≤ q.1) (fun _ => ⟨w, w.heap.size, [], 83, []⟩)
  (fun q => { F := [(2, .val (.slice A l.length ac)), (6, .bf), (7, .ptr 0 0), (9, .ptr 2 0), (11, .val (.int .i64 q.1))], H := bothF gc gs gw (playC c (l.take q.1)) 0 q.2.1 q.2.2.1 q.2.2.2 }) (fun q => l.length - q.1) (fun _ => rfl) ?start ?round
 case start =>
  intro a W rep
  refine ⟨(0, none, 0, ⟨c.sets, c.ways, 0, []⟩), ⟨Nat.zero_le _, ok, inv_zero hz, st_zero hz, ⟨rfl, rfl, hu.symm, by show ([] : List En).Perm (hlTo c c.n); rw [hl_zero hz], .nil⟩, by show c.uses ≤ _; rw [hu]; exact Int.le_refl _⟩, ?_⟩
  exact ((rep.nilH 44 21).cellsTo 2 (l' := [.val (.int .i64 c.sets), .val (.int .i64 c.ways), .own 3 0, .val (.int .i64 0)]) rfl (dc_own rfl)).le (by simp only [bothF, caF, dcS]; (simp only [setn, List.nil_append, List.cons_append, leF, leH_nil, leH_cons, leF_nil, lk, scp, scpL, scpO, resF, resH, resO, resV, resVL, nth, Nat.reduceBEq, Nat.reduceLT, decide_true, decide_false, List.length, List.length_cons, List.length_nil, Nat.reduceAdd, Bool.and_self, Bool.and_true, and_true, true_and, numF] <;> try simp)) (by simp only [bothF, caF, dcS, show playC c (l.take 0) = c from rfl]; (simp only [setn, List.nil_append, List.cons_append, leF, leH_nil, leH_cons, leF_nil, lk, scp, scpL, scpO, resF, resH, resO, resV, resVL, nth, Nat.reduceBEq, Nat.reduceLT, decide_true, decide_false, List.length, List.length_cons, List.length_nil, Nat.reduceAdd, Bool.and_self, Bool.and_true, and_true, true_and, numF] <;> try simp); rfl)
 case round =>
  rintro ⟨i, B, bc, D⟩ ⟨hi, oki, ivi, sti, ri, hui⟩ I again
  simp only at hi oki ivi sti ri hui ⊢
  simp only [bothF, caF, dcS]
  (refine Y_go 600 ?_; dsimp only [Nat.reduceAdd, List.cons_append, List.nil_append, zq9y, t4n11, T4n11, zq9r, zq9q, Y_k, zq4u, zq8o, zq6n, Nat.reduceBEq, zq6l, zq6k, YK, zq8t, zq55, zq0r, zq50, zq04, zq92, zq9b, zq0i, zq9e, zq9i, normF, zq6m, zq86, zq87, zq8c, zq8a, zq9s, zq6h, zq8x, YC, zq9p, t4n10, T4n10, zq9t, zq58, zq06, zq0w, zq5c, zq1p, zq1c, zq1d, zq1b, zq17, zq9j, zq9u, popTo, zq6i, YP, t4n13, T4n13])
  have iv2 := ivi
  refine ⟨fun hlt => ?_, fun hge => ?_⟩
  rotate_left
  ·clear again I
   generalize playC c (l.take i) = ci at oki ivi sti ri hui iv2 ⊢
   refine call_all gc gs ci oki [_, _] rfl rfl fun es B2 bc2 hp hs => ?_
   have he := all_is ri hp hs ivi
   subst he
   have hlen := rel_len oki ri
   dsimp only [caF, List.cons_append, List.nil_append, List.length_cons, List.length_nil, Nat.reduceAdd, zq8t]
   (refine Y_go 600 ?_; dsimp only [Y_k, zq4u, zq8o, zq6n, Nat.reduceBEq, zq6k, YK, zq8t, zq9i, normF, zq6l, zq6m, zq86, zq8a, zq8f, zq87, zq8c, zq9y, t4n12, T4n12, zq9r, zq9q, zq5a, zq14, Nat.reduceAdd, zq5c, zq1o, nth, zq1k, List.length_cons, List.length_nil, dropL, takeL, zq19, zq18, zq9j])
   refine call_rule (vs := [.slice B2 D.es.length bc2, .slice B D.es.length bc]) rfl (R := fun W v W' => v = .bool true ∧ Fresh W W') (fun W hW => same18 B2 B bc2 bc D.es W (hW.rowAt' (i := 4) rfl) (hW.rowAt' (i := 3) rfl) (by omega)) fun W v W' hW hr => ⟨.val (.bool true), _, by rw [hr.1]; simp [Is], HExt.refl _, hW.freshK hr.2, ?_⟩
   dsimp only [zq8t]
   (refine Y_go 600 ?_; dsimp only [Y_k, zq4u, zq8o, zq6n, Nat.reduceBEq, zq6k, YK, zq8t, zq9i, normF, zq6l, zq6m, zq86, zq8a, zq8f, zq87, zq8c, zq9x])
   exact yes1 _ rfl
  have hlt : i < l.length := by have := of_decide_eq_true hlt; omega
  have htk : l.take (i + 1) = l.take i ++ [l[i]] := by rw [List.take_add_one, List.getElem?_eq_getElem hlt]; rfl
  have hsn := play_snoc c (l.take i) l[i]
  rw [← htk] at hsn
  have cp : ∀ k {m} v, (spV l[i])[k]? = some v → (m = (i : Int).toNat * 13 + k) → CellAt ⟨w, w.heap.size, [], 83, []⟩ A m v := by
   intro k m v hk hm
   have := (List.getElem?_eq_some_iff.1 hk).1
   rw [hm, Int.toNat_natCast]
   exact hAE.cell (by rw [cellsS_get l hlt this]; exact hk)
  generalize l[i] = x at hsn cp
  have hgo : ∀ c' B bc D, playC c (l.take (i + 1)) = c' → CaOk c' → Inv c' → St c' → Rel c' D → c'.uses ≤ ((i + 1 : Nat) : Int) → ∀ (a : Act) (W : World), Rep ⟨w, w.heap.size, [], 83, []⟩ { F := [(2, .val (.slice A l.length ac)), (6, .bf), (7, .ptr 0 0), (9, .ptr 2 0), (11, .val (.int .i64 ((i + 1 : Nat) : Int)))], H := bothF gc gs gw c' 0 B bc D } a W → I a W := fun c' B bc D h h1 h2 h3 h4 h5 a W rep => again (i + 1, B, bc, D) (by subst h; exact ⟨hlt, h1, h2, h3, h4, h5⟩) (by show l.length - (i + 1) < l.length - i; omega) a W (by subst h; exact rep)
  generalize playC c (l.take i) = ci at oki ivi sti ri hui hsn ⊢
  clear again
  refine ⟨⟨by omega, by omega, sA (by omega)⟩, _, cp 0 _ rfl (by omega), _, cp 1 _ rfl (by omega), _, cp 2 _ rfl (by omega), _, cp 3 _ rfl (by omega), _, cp 4 _ rfl (by omega), _, cp 5 _ rfl (by omega), _, cp 6 _ rfl (by omega), _, cp 7 _ rfl (by omega), _, cp 8 _ rfl (by omega), _, cp 9 _ rfl (by omega), _, cp 10 _ rfl (by omega), _, cp 11 _ rfl (by omega), _, cp 12 _ rfl (by omega), ?_⟩
  refine call_both gc gs gw ci (stepC ci x) B bc D (stepD D x) [] rfl (vs := [.pointer (some ⟨gc, 0, none⟩), .pointer (some ⟨gw, 0, none⟩), .agg (spV x).toArray]) rfl (fun W hW hh => step17 gc gs gw ci B bc D x oki ivi sti ri (by omega) hh) fun B1 bc1 => ?_
  have hsl := step_like ci x
  have ok2 : CaOk (stepC ci x) := hsl.ok oki (by omega)
  have iv2 := step_inv oki ivi x
  obtain ⟨ri2, sti2⟩ := step_rel oki ivi sti ri x
  have hu2 : (stepC ci x).uses ≤ ((i + 1 : Nat) : Int) := by rcases hsl.u with e | e <;> omega
  rw [hsn] at hgo
  have hgo := fun B bc => hgo _ B bc (stepD D x) rfl ok2 iv2 sti2 ri2 hu2
  generalize stepC ci x = c2 at ok2 iv2 ri2 hgo ⊢
  generalize stepD D x = D2 at ri2 hgo ⊢
  have hlen := rel_len ok2 ri2
  dsimp only [zq8t, bothF, caF, dcS, Nat.reduceAdd, List.cons_append, List.nil_append]
  (refine Y_go 600 ?_; dsimp only [Y_k, zq4u, zq8o, zq6n, Nat.reduceBEq, zq6k, YK, zq8t, zq9i, normF, zq6l, zq6m, zq86, zq89, zq87, zq8c, zq8a, zq9y, t4n8, T4n8, zq9r, zq9q, zq9j])
  refine call_all gc gs c2 ok2 [_, _] rfl rfl fun es B2 bc2 hp hs => ?_
  have he := all_is ri2 hp hs iv2
  subst he
  dsimp only [caF, List.cons_append, List.nil_append, List.length_cons, List.length_nil, Nat.reduceAdd, zq8t]
  (refine Y_go 600 ?_; dsimp only [Y_k, zq4u, zq8o, zq6n, Nat.reduceBEq, zq6k, YK, zq8t, zq9i, normF, zq6l, zq6m, zq86, zq89, zq8f, zq87, zq8c, zq8a, zq9y, t4n7, T4n7, zq9r, zq9q, zq53, zq0o, Y_gk, zq6e, YS, zq6a, zq9l, zq4v, zq8p, zq6o, zq0b, zq9s, zq6f, YC, t4n2, T4n2, zq6p, zq9x, YR, zq6c, zq5a, zq14, Nat.reduceAdd, zq5c, zq1o, nth, zq1k, List.length_cons, List.length_nil, dropL, takeL, zq19, zq18, YG])
  refine ⟨fun h => absurd h (by decide), fun _ => ?_⟩
  refine call_rule (vs := [.slice B2 D2.es.length bc2, .slice B1 D2.es.length bc1]) rfl (R := fun W v W' => v = .bool true ∧ Fresh W W') (fun W hW => same18 B2 B1 bc2 bc1 D2.es W (hW.rowAt' (i := 4) rfl) (hW.rowAt' (i := 3) rfl) (by omega)) fun W v W' hW hr => ⟨.val (.bool true), _, by rw [hr.1]; simp [Is], HExt.refl _, hW.freshK hr.2, ?_⟩
  clear hr
  dsimp only [zq8t]
  (refine Y_go 600 ?_; dsimp only [Y_gk, zq6n, Nat.reduceBEq, zq6l, zq6k, zq6c, YR, zq53, zq8o, zq0o, YK, zq8t, Y_k, zq4v, zq8p, zq6o, zq0c, zq9i, normF, zq6m, zq86, zq87, zq89, zq8f, zq8c, zq8a, zq9s, zq6h, zq8x, YC, zq9y, t4n2, T4n2, zq9r, zq9q, zq4u, zq6p, zq9x, zq9p, t4n6, T4n6, zq6q, zq9t, zq9v])
  refine ⟨fun h => absurd h (by decide), fun _ => ?_⟩
  refine loop_go (α := Nat × List Value) (fun q => q.1 ≤ D2.es.length ∧ q.2.length = D2.es.length * 21) (fun _ => ⟨w, w.heap.size, [], 83, []⟩)
   (fun q => { F := [(2, .val (.slice A l.length ac)), (6, .bf), (7, .ptr 0 0), (9, .ptr 2 0), (11, .val (.int .i64 i)), (13, .own 4 0), (14, .val (.int .i64 q.1))], H := bothF gc gs gw c2 1 B1 bc1 D2 ++ [.own 44 0 21 B2 D2.es.length bc2 q.2] }) (fun q => D2.es.length - q.1) (fun _ => rfl) ?start2 ?round2
  case start2 =>
   intro a W rep
   exact ⟨(0, esV D2.es), ⟨Nat.zero_le _, esV_len _⟩, rep.le (by simp only [bothF, caF, dcS]; (simp only [setn, List.nil_append, List.cons_append, leF, leH_nil, leH_cons, leF_nil, lk, scp, scpL, scpO, resF, resH, resO, resV, resVL, nth, Nat.reduceBEq, Nat.reduceLT, decide_true, decide_false, List.length, List.length_cons, List.length_nil, Nat.reduceAdd, Bool.and_self, Bool.and_true, and_true, true_and, numF] <;> try simp)) (by simp only [bothF, caF, dcS]; (simp only [setn, List.nil_append, List.cons_append, leF, leH_nil, leH_cons, leF_nil, lk, scp, scpL, scpO, resF, resH, resO, resV, resVL, nth, Nat.reduceBEq, Nat.reduceLT, decide_true, decide_false, List.length, List.length_cons, List.length_nil, Nat.reduceAdd, Bool.and_self, Bool.and_true, and_true, true_and, numF] <;> try simp))⟩
  case round2 =>
   rintro ⟨k, xs⟩ ⟨hk, hxs⟩ J againJ
   simp only at hk hxs ⊢
   simp only [bothF, caF, dcS]
   (refine Y_go 600 ?_; dsimp only [Nat.reduceAdd, List.cons_append, List.nil_append, zq9y, t4n5, T4n5, zq9r, zq9q, Y_k, zq4u, zq8o, zq6n, Nat.reduceBEq, zq6l, zq6k, YK, zq8t, zq55, zq0t, nth, zq09, zq08, zq0q, zq50, zq04, zq92, zq9b, zq0i, zq9e, zq9i, normF, zq6m, zq87, zq86, zq8f, zq8c, zq8a, zq9s, zq6h, zq8x, YC, zq9p, t4n4, T4n4, zq9t, zq5g, List.map, zq6q, zq6p, zq21, zq8p, zq7u, zq73, zq0a, dropL, takeL, zq20, splice, setn, zq22, zq25, zq58, zq06, zq0y, zq0v, zq5d, zq7t, List.length_cons, List.length_nil, zq8l, zq8m, zq7i, zq8k, zq1y, zq1w, denL, den, zq1v, zq8s, zq89, zqa1, t4n3, T4n3, zq4w, zq0e, zqa2, zq9u, popTo, zq6i, YP, t4n9, T4n9])
   refine ⟨fun hlk => ?_, fun _ => ⟨((i + 1 : Nat) : Int), ArOk.to (by omega) (by omega) (by omega), lend_rule fun a W rep => hgo B1 bc1 a W (rep.res.le (by simp only [bothF, caF, dcS]; (simp only [setn, List.nil_append, List.cons_append, leF, leH_nil, leH_cons, leF_nil, lk, scp, scpL, scpO, resF, resH, resO, resV, resVL, nth, Nat.reduceBEq, Nat.reduceLT, decide_true, decide_false, List.length, List.length_cons, List.length_nil, Nat.reduceAdd, Bool.and_self, Bool.and_true, and_true, true_and, numF] <;> try simp)) (by simp only [bothF, caF, dcS]; (simp only [setn, List.nil_append, List.cons_append, leF, leH_nil, leH_cons, leF_nil, lk, scp, scpL, scpO, resF, resH, resO, resV, resVL, nth, Nat.reduceBEq, Nat.reduceLT, decide_true, decide_false, List.length, List.length_cons, List.length_nil, Nat.reduceAdd, Bool.and_self, Bool.and_true, and_true, true_and, numF] <;> try simp)))⟩⟩
   have hlk : k < D2.es.length := by have := of_decide_eq_true hlk; omega
   have go : ∀ ys : List Value, ys.length = D2.es.length * 21 → G (cxOf Try.prog Try.f4 K4 T4 R) ⟨w, w.heap.size, [], 83, []⟩ [.lend J, .blk 2, .blk 1, .code (.ref 9), .lend I, .blk 0, .code (.ref 13)]
     { F := [(2, .val (.slice A l.length ac)), (6, .bf), (7, .ptr 0 0), (9, .ptr 2 0), (11, .val (.int .i64 i)), (13, .own 4 0), (14, .val (.int .i64 ((k + 1 : Nat) : Int))), (70, .bt)], H := [.cells gc 66 [.val (.int .i64 c2.sets), .val (.int .i64 c2.ways), .slc 1 0 c2.n c2.n, .val (.int .i64 c2.uses)], .row gs 44 (slV c2.n c2.sl), .cells gw 47 [.val (.int .i64 D2.sets), .val (.int .i64 D2.ways), .own 3 1, .val (.int .i64 D2.uses)], .own 44 1 21 B1 D2.es.length bc1 (esV D2.es), .own 44 0 21 B2 D2.es.length bc2 ys] } :=
    fun ys hys => lend_rule fun a W rep => againJ (k + 1, ys) ⟨hlk, hys⟩ (by show D2.es.length - (k + 1) < D2.es.length - k; omega) a W (rep.le (by simp only [bothF, caF, dcS]; (simp only [setn, List.nil_append, List.cons_append, leF, leH_nil, leH_cons, leF_nil, lk, scp, scpL, scpO, resF, resH, resO, resV, resVL, nth, Nat.reduceBEq, Nat.reduceLT, decide_true, decide_false, List.length, List.length_cons, List.length_nil, Nat.reduceAdd, Bool.and_self, Bool.and_true, and_true, true_and, numF] <;> try simp)) (by simp only [bothF, caF, dcS]; (simp only [setn, List.nil_append, List.cons_append, leF, leH_nil, leH_cons, leF_nil, lk, scp, scpL, scpO, resF, resH, resO, resV, resVL, nth, Nat.reduceBEq, Nat.reduceLT, decide_true, decide_false, List.length, List.length_cons, List.length_nil, Nat.reduceAdd, Bool.and_self, Bool.and_true, and_true, true_and, numF] <;> try simp)))
   exact ⟨⟨by omega, by omega⟩, by rw [hxs]; omega, ((k + 1 : Nat) : Int), ArOk.to (by omega) (by omega) (by omega), go _ (by simp only [setn_eq, List.length_set]; exact hxs)⟩
end Go.Proofs.Ytimmobbginjkfaa
