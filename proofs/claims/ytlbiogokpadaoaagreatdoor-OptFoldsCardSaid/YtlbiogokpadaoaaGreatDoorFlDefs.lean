/- flow: parts in memory. -/
import Derived.Test.YtlbiogokpadaoaaGreatDoorFlPlain
import Derived.Test.YtlbiogokpadaoaaGreatDoorSxGhost
import Derived.Test.YtlbiogokpadaoaaGreatDoorFlW2
import Derived.Test.YtlbiogokpadaoaaGreatDoorFlCode
set_option linter.unusedSimpArgs false
set_option linter.unusedVariables false
set_option linter.unnecessarySimpa false
namespace Go.Isa
open Go Go.Sx
structure PR where
 pa : Pa
 A : Option Addr
 c : Nat
def PR.cells (p : PR) : List Value := [.int .i64 p.pa.fr, .int .i64 p.pa.to, .slice p.A p.pa.nx.length p.c]
def cellsR (ps : List PR) : List Value := ps.flatMap PR.cells
theorem PR.cells_len (p : PR) : p.cells.length = 3 := rfl
theorem cellsR_len (ps : List PR) : (cellsR ps).length = ps.length * 3 := flat_len PR.cells_len ps
theorem cellsR_snoc (ps : List PR) (p : PR) : cellsR (ps ++ [p]) = cellsR ps ++ p.cells := by simp [cellsR]
theorem cellsR_get {ps : List PR} {i k : Nat} {p : PR} (hi : ps[i]? = some p) (hk : k < 3) : (cellsR ps)[i * 3 + k]? = p.cells[k]? := by
 obtain ⟨h1, h2⟩ := List.getElem?_eq_some_iff.1 hi
 unfold cellsR
 rw [flat_get PR.cells_len ps h1 hk, h2]
def NxAt (w : World) (ps : List PR) : Prop := ∀ p ∈ ps, RowAt w p.A (isV p.pa.nx)
def NxE (E : Env) (ps : List PR) : Prop := ∀ p ∈ ps, RowE E p.A (isV p.pa.nx)
theorem NxAt.keep {w w' : World} {ps : List PR} (h : NxAt w ps) (k : Fresh w w') : NxAt w' ps := fun p hp => (h p hp).keep k
theorem NxAt.toE {w : World} {ps : List PR} (h : NxAt w ps) (nt : Nat) (mk : List Nat) : NxE ⟨w, w.heap.size, [], nt, mk⟩ ps := fun p hp => (h p hp).toE (by simp) nt mk
theorem NxE.over {E E' : Env} {ps : List PR} (h : NxE E ps) (o : Over E E') : NxE E' ps := fun p hp => (h p hp).over o
theorem NxE.at {E : Env} {ps : List PR} {H : List SO} {W : World} (h : NxE E ps) (hW : HeapOk E H W) : NxAt W ps := fun p hp => (h p hp).at hW
theorem NxE.atM {E0 E : Env} {ps : List PR} {H : List SO} {W W' : World} (h : NxE E ps) (hm : MarksOk E0 E) (hW : HeapOk E H W) (hk : Keep (fun j => j ∉ E.marks) W W') : NxAt W' ps := fun p hp => (h p hp).atM hm hW hk
theorem NxE.snoc {E : Env} {ps : List PR} {p : PR} (h : NxE E ps) (hp : RowE E p.A (isV p.pa.nx)) : NxE E (ps ++ [p]) := fun q hq => by
 rcases List.mem_append.1 hq with e | e
 ·exact h q e
 ·simp only [List.mem_singleton] at e; subst e; exact hp
def NxNew (n : Nat) (ps : List PR) : Prop := ∀ p ∈ ps, ∀ a, p.A = some a → n ≤ a.block
theorem NxNew.nil (n : Nat) : NxNew n [] := fun p hp => by simp at hp
theorem NxNew.snoc {n : Nat} {ps : List PR} {p : PR} (h : NxNew n ps) (hp : ∀ a, p.A = some a → n ≤ a.block) : NxNew n (ps ++ [p]) := fun q hq => by
 rcases List.mem_append.1 hq with e | e
 ·exact h q e
 ·simp only [List.mem_singleton] at e; subst e; exact hp
theorem NxNew.le {n m : Nat} {ps : List PR} (h : NxNew n ps) (hm : m ≤ n) : NxNew m ps := fun p hp a ha => Nat.le_trans hm (h p hp a ha)
end Go.Isa
namespace Go.Proofs.YtlbiogokpadaoaaGreatDoor
open Go Go.Sx Go.Isa
set_option maxRecDepth 100000
theorem rng33 {b : World} {N : Nat} {st mk : List Nat} {l : List In} {p : Nat} {x : In} {B : Option Addr} {bc : Nat} {bA oA : Option Addr} {bC oC g3 g7 g1 g2 : Nat} {fr to : Int} {ps : List PR} {R : Value → World → Prop} {k : List KI}
  (hx : l[p]? = some x) (hl : l.length ≤ 1024) (hB : RowE ⟨b, N, st, 60, mk⟩ B (cellsI l)) (hG : RowE ⟨b, N, st, 60, mk⟩ (some ⟨0, 0, none⟩) shL)
  (hK : ∀ (D : Nat) (A' : Option Addr) (c' : Nat) (zs : List Int), zs = (goesL l.length p x).map (fun t => (posI (bgL l) t : Int)) → G (cxM Tryz.prog Tryz.f33 K33 T33 R) ⟨b, N, st, 60, D :: mk⟩ k { F := [(37, .fn (.func 98) [] [.ptr 4 0, .ptr 5 0]), (0, .val (.slice B l.length bc)), (3, .ptr 1 0), (4, .own 2 0), (7, .ptr 3 0), (11, .own 0 0), (12, .val (.int .i64 ((bgL l).length : Int))), (13, .val (.int .i64 (ps.length : Int)))], H := [.own 3 0 1 bA (bgL l).length bC (isV (bgL l)), .cells g3 33 [.own 0 0], .own 35 0 3 oA ps.length oC (cellsR ps), .cells g7 35 [.val (.int .i64 fr), .val (.int .i64 to), .own 6 0], .cells g1 22 [.val (.slice B l.length bc)], .cells g2 3 [.val (.int .i64 (p : Int))], .own 3 0 1 A' zs.length c' (isV zs), .obj D (.deferred (some []))] }) :
  G (cxM Tryz.prog Tryz.f33 K33 T33 R) ⟨b, N, st, 60, mk⟩ (.code (.rng (.tmp 37) [38] (.ops [⟨some 8, none, .k (.mov (.tmp 38))⟩]) (.ref 1)) :: k) { F := [(37, .fn (.func 98) [] [.ptr 4 0, .ptr 5 0]), (0, .val (.slice B l.length bc)), (3, .ptr 1 0), (4, .own 2 0), (7, .ptr 3 0), (11, .own 0 0), (12, .val (.int .i64 ((bgL l).length : Int))), (13, .val (.int .i64 (ps.length : Int)))], H := [.own 3 0 1 bA (bgL l).length bC (isV (bgL l)), .cells g3 33 [.own 0 0], .own 35 0 3 oA ps.length oC (cellsR ps), .cells g7 35 [.val (.int .i64 fr), .val (.int .i64 to), .own 6 0], .cells g1 22 [.val (.slice B l.length bc)], .cells g2 3 [.val (.int .i64 (p : Int))], .own 3 0 1 none 0 0 []] } := by
 have hlt : p < l.length := some_lt9 hx
 have hne : l ≠ [] := by intro e; subst e; simp at hlt
 have hb0 : 0 < (bgL l).length := bgL_pos hne
 have hbn : (bgL l).length ≤ 1000000000 := by have := bgL_len l; omega
 have hbs : (bgL l).Pairwise (· ≤ ·) := (bgL_up l).imp fun h => Int.le_of_lt h
 have hi1 : ((p : Nat) : Int).toNat = p := by omega
 have hxl : l[p] = x := (List.getElem?_eq_some_iff.1 hx).2
 have cl : ∀ k v, k < 5 → x.cells[k]? = some v → CellAt ⟨b, N, st, 53, []⟩ B (p * 5 + k) v := fun k v hk hv => by
  have h := hB.cell (j := p * 5 + k) (u := v) (by rw [cellsI_get l hlt hk, hxl]; exact hv)
  exact h
 have sB : B.isSome = true := hB.isSome (j := p * 5) (by rw [cellsI_len]; omega)
 refine rng_rule rfl rfl (gf := 98) (caps := [.pointer (some ⟨g1, 0, none⟩), .pointer (some ⟨g2, 0, none⟩)]) rfl rfl ?_
 intro D lno rec hrec R' hend hjump W1 hW1
 refine calls_in (keep := K98) (nt := 53) (E := ⟨b, N, st, 60, mk⟩) (svs := [.val (.func (.yield lno) #[] #[]), .ptr 4 0, .ptr 5 0]) Tryz.func98 x98 n98 (by simp) hW1 (by simp [IsL, Is, blk, nth]) ?_
 (refine Y_go 600 ?_; dsimp only [X98, numF, Nat.reduceAdd, List.cons_append, List.nil_append, zq9r, zq9q, Y_k, zq5c, zq8o, zq6n, Nat.reduceBEq, zq6l, zq6k, zq1o, nth, zq1k, List.length_cons, List.length_nil, dropL, takeL, zq19, zq18, YK, zq8t, zq58, zq06, zq0w, zq1p, zq1c, zq1b, zq17, zq5e, List.map, zq6q, zq5d, zq7t, zq8l, zq73, zq8m, zq8k, zq0a, zq1x, zq1t, zq1r, splice, setn, zq8s, zq9i, normF, zq6m, zq86, zq8c, zq87, zq9y, t98n3, T98n3, zq9j])
 rw [hi1]
 refine ⟨⟨by omega, by omega, sB⟩, _, cl 0 _ (by omega) rfl, _, cl 1 _ (by omega) rfl, _, cl 2 _ (by omega) rfl, _, cl 3 _ (by omega) rfl, _, cl 4 _ (by omega) rfl, fun g => ?_⟩
 have fin0 : ∀ (A' : Option Addr) (c' : Nat) (zs' : List Int) (r : List SO) W, zs' = (goesL l.length p x).map (fun t => (posI (bgL l) t : Int)) → (none = A' ∧ 0 = c' ∧ [] = zs') → HeapOk ⟨b, N, st, 53, []⟩ ([.own 3 0 1 bA (bgL l).length bC (isV (bgL l)), .cells g3 33 [.own 0 0], .own 35 0 3 oA ps.length oC (cellsR ps), .cells g7 35 [.val (.int .i64 fr), .val (.int .i64 to), .own 6 0], .cells g1 22 [.val (.slice B l.length bc)], .cells g2 3 [.val (.int .i64 (p : Int))], .own 3 0 1 A' zs'.length c' (isV zs'), .obj D (.deferred (some [])), .obj lno (.loop rec), .cells g 41 (In.sv x)] ++ r) W → R' (tupOf []) W := by
  rintro A' c' zs' r W hgo ⟨rfl, rfl, rfl⟩ hW
  refine hend _ _ W rfl (extB_spec ?_) (HeapOk.env (E := ⟨b, N, st, 53, []⟩) (E' := ⟨b, N, st, 60, mk⟩) rfl rfl rfl hW) ?_
  ·simp [extB, SO.blk, bump, isV]
  exact fun a W rep => hK D none 0 [] hgo a W (rep.res.le (by (simp only [setn, List.nil_append, List.cons_append, leF, leH_nil, leH_cons, leF_nil, lk, scp, scpL, scpO, resF, resH, resO, resV, resVL, nth, Nat.reduceBEq, Nat.reduceLT, decide_true, decide_false, List.length, List.length_cons, List.length_nil, Nat.reduceAdd, Bool.and_self, Bool.and_true, and_true, true_and, numF] <;> try simp)) (by (simp only [setn, List.nil_append, List.cons_append, leF, leH_nil, leH_cons, leF_nil, lk, scp, scpL, scpO, resF, resH, resO, resV, resVL, nth, Nat.reduceBEq, Nat.reduceLT, decide_true, decide_false, List.length, List.length_cons, List.length_nil, Nat.reduceAdd, Bool.and_self, Bool.and_true, and_true, true_and, numF] <;> try simp)))
 have fin1 : ∀ (A' : Option Addr) (c' : Nat) (zs' : List Int) (r : List SO) W, zs' = (goesL l.length p x).map (fun t => (posI (bgL l) t : Int)) → HeapOk ⟨b, N, st, 53, []⟩ ([.own 3 0 1 bA (bgL l).length bC (isV (bgL l)), .cells g3 33 [.own 0 0], .own 35 0 3 oA ps.length oC (cellsR ps), .cells g7 35 [.val (.int .i64 fr), .val (.int .i64 to), .own 6 1], .cells g1 22 [.val (.slice B l.length bc)], .cells g2 3 [.val (.int .i64 (p : Int))], .own 3 1 1 A' zs'.length c' (isV zs'), .obj D (.deferred (some [])), .obj lno (.loop rec), .cells g 41 (In.sv x)] ++ r) W → R' (tupOf []) W := by
  rintro A' c' zs' r W hgo hW
  refine hend _ _ W rfl (extB_spec ?_) (HeapOk.env (E := ⟨b, N, st, 53, []⟩) (E' := ⟨b, N, st, 60, mk⟩) rfl rfl rfl hW) ?_
  ·simp [extB, SO.blk, bump]
  exact fun a W rep => hK D A' c' zs' hgo a W (rep.res.le (by (simp only [setn, List.nil_append, List.cons_append, leF, leH_nil, leH_cons, leF_nil, lk, scp, scpL, scpO, resF, resH, resO, resV, resVL, nth, Nat.reduceBEq, Nat.reduceLT, decide_true, decide_false, List.length, List.length_cons, List.length_nil, Nat.reduceAdd, Bool.and_self, Bool.and_true, and_true, true_and, numF] <;> try simp)) (by (simp only [setn, List.nil_append, List.cons_append, leF, leH_nil, leH_cons, leF_nil, lk, scp, scpL, scpO, resF, resH, resO, resV, resVL, nth, Nat.reduceBEq, Nat.reduceLT, decide_true, decide_false, List.length, List.length_cons, List.length_nil, Nat.reduceAdd, Bool.and_self, Bool.and_true, and_true, true_and, numF] <;> try simp)))
 have fin2 : ∀ (A' : Option Addr) (c' : Nat) (zs' : List Int) (r : List SO) W, zs' = (goesL l.length p x).map (fun t => (posI (bgL l) t : Int)) → HeapOk ⟨b, N, st, 53, []⟩ ([.own 3 0 1 bA (bgL l).length bC (isV (bgL l)), .cells g3 33 [.own 0 0], .own 35 0 3 oA ps.length oC (cellsR ps), .cells g7 35 [.val (.int .i64 fr), .val (.int .i64 to), .own 6 2], .cells g1 22 [.val (.slice B l.length bc)], .cells g2 3 [.val (.int .i64 (p : Int))], .own 3 2 1 A' zs'.length c' (isV zs'), .obj D (.deferred (some [])), .obj lno (.loop rec), .cells g 41 (In.sv x)] ++ r) W → R' (tupOf []) W := by
  rintro A' c' zs' r W hgo hW
  refine hend _ _ W rfl (extB_spec ?_) (HeapOk.env (E := ⟨b, N, st, 53, []⟩) (E' := ⟨b, N, st, 60, mk⟩) rfl rfl rfl hW) ?_
  ·simp [extB, SO.blk, bump]
  exact fun a W rep => hK D A' c' zs' hgo a W (rep.res.le (by (simp only [setn, List.nil_append, List.cons_append, leF, leH_nil, leH_cons, leF_nil, lk, scp, scpL, scpO, resF, resH, resO, resV, resVL, nth, Nat.reduceBEq, Nat.reduceLT, decide_true, decide_false, List.length, List.length_cons, List.length_nil, Nat.reduceAdd, Bool.and_self, Bool.and_true, and_true, true_and, numF] <;> try simp)) (by (simp only [setn, List.nil_append, List.cons_append, leF, leH_nil, leH_cons, leF_nil, lk, scp, scpL, scpO, resF, resH, resO, resV, resVL, nth, Nat.reduceBEq, Nat.reduceLT, decide_true, decide_false, List.length, List.length_cons, List.length_nil, Nat.reduceAdd, Bool.and_self, Bool.and_true, and_true, true_and, numF] <;> try simp)))
 have sec0 : [] ++ (if !(x.op == 13) && decide (p + 1 < l.length) then [(posI (bgL l) ((p : Int) + 1) : Int)] else []) = (goesL l.length p x).map (fun t => (posI (bgL l) t : Int)) →
   G (cxOf Tryz.prog Tryz.f98 K98 T98 R') ⟨b, N, st, 53, []⟩ [.code (.ref 1)] { F := [(0, .val (.func (.yield lno) #[] #[])), (1, .ptr 4 0), (2, .ptr 5 0), (4, .ptr 9 0)], H := [.own 3 0 1 bA (bgL l).length bC (isV (bgL l)), .cells g3 33 [.own 0 0], .own 35 0 3 oA ps.length oC (cellsR ps), .cells g7 35 [.val (.int .i64 fr), .val (.int .i64 to), .own 6 0], .cells g1 22 [.val (.slice B l.length bc)], .cells g2 3 [.val (.int .i64 (p : Int))], .own 3 0 1 none 0 0 [], .obj D (.deferred (some [])), .obj lno (.loop rec), .cells g 41 (In.sv x)] } := by
  intro hgo
  (refine Y_go 600 ?_; dsimp only [In.sv, zq9y, t98n1, T98n1, zq9r, zq9q, Y_k, zq5a, zq8o, zq6n, Nat.reduceBEq, zq6l, zq6k, zq14, Nat.add_zero, YK, zq8t, zq5c, zq1o, nth, zq1k, List.length_cons, List.length_nil, Nat.reduceAdd, dropL, takeL, zq19, zq18, zq50, zq8p, zq6q, zq04, zq92, zq9b, zq0i, zq9d, zq4u, Y_gk, zq6d, YR, zq69, zq4w, zq0e, zq55, zq0r, zq9e, zq4v, zq6p, zq0b, zq9i, normF, zq6m, zq87, zq86, zq8c, zq9s, zq6h, zq8x, YC, t98n0, T98n0, zq9k, zq9p, zqa3, YS, zq6b, zq0c, zq8a, zq6g])
  refine ⟨fun h13 => ⟨((p + 1 : Nat) : Int), ArOk.to (by omega) (by omega) (by omega), fun hlt2 => ⟨((p + 1 : Nat) : Int), ArOk.to (by omega) (by omega) (by omega), ?_⟩, fun hge2 => end_rule (vs := []) r98 rfl rfl fun W hW => fin0 none 0 [] [] W ?_ ⟨rfl, rfl, rfl⟩ hW⟩, fun h13 => end_rule (vs := []) r98 rfl rfl fun W hW => fin0 none 0 [] [] W ?_ ⟨rfl, rfl, rfl⟩ hW⟩
  ·have h13 : (!(x.op == 13)) = true := h13
   have hlt2 : p + 1 < l.length := by have := of_decide_eq_true hlt2; omega
   have hgo : [] ++ [(posI (bgL l) ((p + 1 : Nat) : Int) : Int)] = (goesL l.length p x).map (fun t => (posI (bgL l) t : Int)) := by rw [← hgo, h13, decide_eq_true hlt2]; rfl
   refine yield_rule (C' := cxOf Tryz.prog Tryz.f98 K98 T98 R') (E := ⟨b, N, st, 60, mk⟩) (i := 8) (rec := rec) (lno := lno) (keep := K33) ?_ ?_ ?_ hrec ?_ ?_ ?_ ?_ ?_ ?_
   ·rfl
   ·rfl
   ·rfl
   ·simp
   ·rfl
   ·rfl
   ·rfl
   ·exact extB_spec (by simp [extB, SO.blk, bump])
   intro J Q' hQ' hbeg hnorm hjmp
   have hF : NoPanic (fun _ _ _ => False) := fun _ _ _ h => h
   (refine Y_round hF 100 ?_; dsimp only [evL, zq8o, zq6n, Nat.reduceBEq, zq6k, setPs, zq9q, Y_k, zq4u, YK, zq8t, zq9i, normF, zq6l, zq6m, zq87, zq8j, zq86, zq8f, zq8c, zqa2])
   refine lend_rule fun a W rep => hbeg _ _ rfl ?_ a W rep
   (refine Y_round hQ' 100 ?_; dsimp only [setn, zq9y, t33n1, T33n1, zq9t, zq9q, Y_k, zq5a, zq8o, zq6n, Nat.reduceBEq, zq6l, zq6k, zq14, Nat.reduceAdd, YK, zq8t, zq5c, zq1o, nth, zq1k, List.length_cons, List.length_nil, dropL, takeL, zq19, zq18, zq4u, zq9j])
   refine call_val (vs := [.slice bA (bgL l).length bC, .int .i64 ((p + 1 : Nat) : Int)]) rfl (fun W hW => find47 hW (i := 0) rfl hbn hb0 hbs ((p + 1 : Nat) : Int)) fun v hv => ⟨.val (.int .i64 (posI (bgL l) ((p + 1 : Nat) : Int) : Int)), by rw [hv]; simp [Is], ?_⟩
   (refine still_y (by dsimp only [zq8t, zq6n, Nat.reduceBEq, zq6l, zq6k, zq5c, zq8o, zq1o, nth, zq1k, List.length_cons, List.length_nil, Nat.reduceAdd, dropL, takeL, zq19, zq18]; exact ⟨rfl, det_of_den rfl⟩) ?_; refine Y_round hQ' 100 ?_; dsimp only [zq8t, Y_k, zq5h, List.map, zq6q, repL, List.cons_append, List.nil_append, zq23, Nat.reduceMul, zq8o, zq6n, Nat.reduceBEq, zq6k, zq7u, zq73, zq0a, dropL, takeL, zq20, splice, setn, zq24, zq26, List.length_cons, List.length_nil, Nat.reduceAdd, YK, zq5l, zq6l, zq2w, nth, zq09, zq08, zq2s, zq9b, zq2r, zq2n, zq2j, zq2k, zq8l, zq8m, zq8k, denL, den, zq2l, zq2h, zq5a, zq14, zq5d, zq81, zq7n, zq1x, zq1t, zq1r, zq8s, zq9i, normF, zq6m, zq87, zq8j, zq86, zq8f, zq8c, zqa1, zqa3])
   intro g5
   refine ⟨⟨by simp only [maxLen]; omega, by omega⟩, fun A5 c5 => ?_⟩
   refine stop_rule fun a W rep => hnorm _ rfl (extB_spec (by simp [extB, SO.blk, bump])) ?_ _ a W rep
   (refine Y_go 600 ?_; dsimp only [zq8t, setn, zq9i, normF, zq6n, Nat.reduceBEq, zq6l, zq6k, zq6m, zq89, zq86, zq8c, zq87, zqa3])
   exact end_rule (vs := []) r98 rfl rfl fun W hW => fin1 A5 c5 _ [.cells g5 3 [.val (.int .i64 (posI (bgL l) ((p + 1 : Nat) : Int) : Int))]] W hgo hW
  ·have hge2 : ¬ p + 1 < l.length := by have := of_decide_eq_false hge2; omega
   rw [decide_eq_false hge2, Bool.and_false] at hgo
   simpa using hgo
  ·have h13 : (!(x.op == 13)) = false := h13
   rw [h13, Bool.false_and] at hgo
   simpa using hgo
 have sec1 : ∀ (A' : Option Addr) (c' : Nat) (zs1 : List Int), zs1.length ≤ 100001 → zs1 ++ (if !(x.op == 13) && decide (p + 1 < l.length) then [(posI (bgL l) ((p : Int) + 1) : Int)] else []) = (goesL l.length p x).map (fun t => (posI (bgL l) t : Int)) →
   G (cxOf Tryz.prog Tryz.f98 K98 T98 R') ⟨b, N, st, 53, []⟩ [.code (.ref 1)] { F := [(0, .val (.func (.yield lno) #[] #[])), (1, .ptr 4 0), (2, .ptr 5 0), (4, .ptr 9 0)], H := [.own 3 0 1 bA (bgL l).length bC (isV (bgL l)), .cells g3 33 [.own 0 0], .own 35 0 3 oA ps.length oC (cellsR ps), .cells g7 35 [.val (.int .i64 fr), .val (.int .i64 to), .own 6 1], .cells g1 22 [.val (.slice B l.length bc)], .cells g2 3 [.val (.int .i64 (p : Int))], .own 3 1 1 A' zs1.length c' (isV zs1), .obj D (.deferred (some [])), .obj lno (.loop rec), .cells g 41 (In.sv x)] } := by
  intro A' c' zs1 hz1 hgo
  (refine Y_go 600 ?_; dsimp only [In.sv, zq9y, t98n1, T98n1, zq9r, zq9q, Y_k, zq5a, zq8o, zq6n, Nat.reduceBEq, zq6l, zq6k, zq14, Nat.add_zero, YK, zq8t, zq5c, zq1o, nth, zq1k, List.length_cons, List.length_nil, Nat.reduceAdd, dropL, takeL, zq19, zq18, zq50, zq8p, zq6q, zq04, zq92, zq9b, zq0i, zq9d, zq4u, Y_gk, zq6d, YR, zq69, zq4w, zq0e, zq55, zq0r, zq9e, zq4v, zq6p, zq0b, zq9i, normF, zq6m, zq87, zq86, zq8c, zq9s, zq6h, zq8x, YC, t98n0, T98n0, zq9k, zq9p, zqa3, YS, zq6b, zq0c, zq8a, zq6g])
  refine ⟨fun h13 => ⟨((p + 1 : Nat) : Int), ArOk.to (by omega) (by omega) (by omega), fun hlt2 => ⟨((p + 1 : Nat) : Int), ArOk.to (by omega) (by omega) (by omega), ?_⟩, fun hge2 => end_rule (vs := []) r98 rfl rfl fun W hW => fin1 A' c' zs1 [] W ?_ hW⟩, fun h13 => end_rule (vs := []) r98 rfl rfl fun W hW => fin1 A' c' zs1 [] W ?_ hW⟩
  ·have h13 : (!(x.op == 13)) = true := h13
   have hlt2 : p + 1 < l.length := by have := of_decide_eq_true hlt2; omega
   have hgo : zs1 ++ [(posI (bgL l) ((p + 1 : Nat) : Int) : Int)] = (goesL l.length p x).map (fun t => (posI (bgL l) t : Int)) := by rw [← hgo, h13, decide_eq_true hlt2]; rfl
   refine yield_rule (C' := cxOf Tryz.prog Tryz.f98 K98 T98 R') (E := ⟨b, N, st, 60, mk⟩) (i := 8) (rec := rec) (lno := lno) (keep := K33) ?_ ?_ ?_ hrec ?_ ?_ ?_ ?_ ?_ ?_
   ·rfl
   ·rfl
   ·rfl
   ·simp
   ·rfl
   ·rfl
   ·rfl
   ·exact extB_spec (by simp [extB, SO.blk, bump])
   intro J Q' hQ' hbeg hnorm hjmp
   have hF : NoPanic (fun _ _ _ => False) := fun _ _ _ h => h
   (refine Y_round hF 100 ?_; dsimp only [evL, zq8o, zq6n, Nat.reduceBEq, zq6k, setPs, zq9q, Y_k, zq4u, YK, zq8t, zq9i, normF, zq6l, zq6m, zq87, zq8j, zq86, zq8f, zq8c, zqa2])
   refine lend_rule fun a W rep => hbeg _ _ rfl ?_ a W rep
   (refine Y_round hQ' 100 ?_; dsimp only [setn, zq9y, t33n1, T33n1, zq9t, zq9q, Y_k, zq5a, zq8o, zq6n, Nat.reduceBEq, zq6l, zq6k, zq14, Nat.reduceAdd, YK, zq8t, zq5c, zq1o, nth, zq1k, List.length_cons, List.length_nil, dropL, takeL, zq19, zq18, zq4u, zq9j])
   refine call_val (vs := [.slice bA (bgL l).length bC, .int .i64 ((p + 1 : Nat) : Int)]) rfl (fun W hW => find47 hW (i := 0) rfl hbn hb0 hbs ((p + 1 : Nat) : Int)) fun v hv => ⟨.val (.int .i64 (posI (bgL l) ((p + 1 : Nat) : Int) : Int)), by rw [hv]; simp [Is], ?_⟩
   (refine still_y (by dsimp only [zq8t, zq6n, Nat.reduceBEq, zq6l, zq6k, zq5c, zq8o, zq1o, nth, zq1k, List.length_cons, List.length_nil, Nat.reduceAdd, dropL, takeL, zq19, zq18]; exact ⟨rfl, det_of_den rfl⟩) ?_; refine Y_round hQ' 100 ?_; dsimp only [zq8t, Y_k, zq5h, List.map, zq6q, repL, List.cons_append, List.nil_append, zq23, Nat.reduceMul, zq8o, zq6n, Nat.reduceBEq, zq6k, zq7u, zq73, zq0a, dropL, takeL, zq20, splice, setn, zq24, zq26, List.length_cons, List.length_nil, Nat.reduceAdd, YK, zq5l, zq6l, zq2w, nth, zq09, zq08, zq2s, zq9b, zq2r, zq2n, zq2j, zq2k, zq8l, zq8m, zq8k, denL, den, zq2l, zq2h, zq5a, zq14, zq5d, zq81, zq7n, zq1x, zq1t, zq1r, zq8s, zq9i, normF, zq6m, zq87, zq8j, zq86, zq8f, zq8c, zqa1, zqa3])
   intro g5
   refine ⟨⟨by simp only [maxLen]; omega, by omega⟩, fun A5 c5 => ?_⟩
   have ez : isV zs1 ++ [Value.int .i64 (posI (bgL l) ((p + 1 : Nat) : Int) : Int)] = isV (zs1 ++ [(posI (bgL l) ((p + 1 : Nat) : Int) : Int)]) := by simp [isV]
   have el : zs1.length + 1 = (zs1 ++ [(posI (bgL l) ((p + 1 : Nat) : Int) : Int)]).length := by simp
   rw [ez, el]
   refine stop_rule fun a W rep => hnorm _ rfl (extB_spec (by simp [extB, SO.blk, bump])) ?_ _ a W rep
   (refine Y_go 600 ?_; dsimp only [zq8t, setn, zq9i, normF, zq6n, Nat.reduceBEq, zq6l, zq6k, zq6m, zq89, zq86, zq8c, zq87, zqa3])
   exact end_rule (vs := []) r98 rfl rfl fun W hW => fin2 A5 c5 _ [.cells g5 3 [.val (.int .i64 (posI (bgL l) ((p + 1 : Nat) : Int) : Int))]] W hgo hW
  ·have hge2 : ¬ p + 1 < l.length := by have := of_decide_eq_false hge2; omega
   rw [decide_eq_false hge2, Bool.and_false] at hgo
   simpa using hgo
  ·have h13 : (!(x.op == 13)) = false := h13
   rw [h13, Bool.false_and] at hgo
   simpa using hgo
 cases hb : legalB x with
 | false =>
  refine call_val (vs := [In.val x]) rfl (fun W hW => legal21 x W (hG.at (HeapOk.env (E := ⟨b, N, st, 53, []⟩) (E' := ⟨b, N, st, 60, mk⟩) rfl rfl rfl hW))) fun v hv => ⟨.bf, by rw [hv, hb]; simp [Is], ?_⟩
  (refine Y_go 600 ?_; dsimp only [zq8t, Y_k, zq53, zq8o, zq6n, Nat.reduceBEq, zq6k, zq0n, YK, zq4u, Y_gk, zq6a, YS, zq6l, zq4v, zq8p, zq6o, zq0b, zq9i, normF, zq6m, zq86, zq89, zq8c, zq87, zq9s, zq6f, YC, zq9x])
  exact ret_rule (vs := []) r98 rfl rfl fun W hW => fin0 none 0 [] [] W (by unfold goesL; rw [hb]; simp) ⟨rfl, rfl, rfl⟩ hW
 | true =>
  refine call_val (vs := [In.val x]) rfl (fun W hW => legal21 x W (hG.at (HeapOk.env (E := ⟨b, N, st, 53, []⟩) (E' := ⟨b, N, st, 60, mk⟩) rfl rfl rfl hW))) fun v hv => ⟨.bt, by rw [hv, hb]; simp [Is], ?_⟩
  (refine Y_go 600 ?_; dsimp only [zq8t, Y_k, zq53, zq8o, zq6n, Nat.reduceBEq, zq6k, zq0m, YK, zq4u, Y_gk, zq6c, YR, zq5a, zq6l, zq14, Nat.add_zero, zq5c, zq1o, nth, zq1k, List.length_cons, List.length_nil, Nat.reduceAdd, dropL, takeL, zq19, zq18, zq50, zq8p, zq6q, zq04, zq92, zq9b, zq0i, zq9c, zq4v, zq6o, zq0c, zq9i, normF, zq6m, zq86, zq87, zq8c, zq9s, zq6h, zq8x, YC, zq9x, zq9p, zq9y, t98n2, T98n2, zq9r, zq9q, zq9j])
  refine ⟨fun h1 => ret_rule (vs := []) r98 rfl rfl fun W hW => fin0 none 0 [] [] W (by unfold goesL; rw [hb, h1]; simp) ⟨rfl, rfl, rfl⟩ hW, fun h1 => ?_⟩
  have hgo : (goesL l.length p x).map (fun t => (posI (bgL l) t : Int)) = (if brB x.op && (decide (0 ≤ x.imm) && decide (x.imm < l.length)) then [(posI (bgL l) x.imm : Int)] else []) ++ (if !(x.op == 13) && decide (p + 1 < l.length) then [(posI (bgL l) ((p : Int) + 1) : Int)] else []) := by
   unfold goesL; rw [hb, h1]
   rw [if_neg (by simp), List.map_append]
   congr 1 <;> split <;> rfl
  cases hbr : brB x.op with
  | false =>
   refine call_val (vs := [.int .i64 x.op]) rfl (fun W hW => branch99 x.op W) fun v hv => ⟨.bf, by rw [hv, hbr]; simp [Is], ?_⟩
   (refine Y_go 22 ?_; dsimp only [zq8t, Y_k, zq4u, zq8o, zq6n, Nat.reduceBEq, zq6k, YK, Y_gk, zq6b, YS, zq6l, zq4v, zq8p, zq6p, zq0c, zq9o, zq9i, normF, zq6m, zq86, zq8a, zq8c, zq87, zq9s, zq6g, YC, zq9p, Y_0])
   exact fun a W rep => sec0 (by rw [hgo, hbr]; simp) a W (rep.le (by (simp only [setn, List.nil_append, List.cons_append, leF, leH_nil, leH_cons, leF_nil, lk, scp, scpL, scpO, resF, resH, resO, resV, resVL, nth, Nat.reduceBEq, Nat.reduceLT, decide_true, decide_false, List.length, List.length_cons, List.length_nil, Nat.reduceAdd, Bool.and_self, Bool.and_true, and_true, true_and, numF] <;> try simp)) (by (simp only [setn, List.nil_append, List.cons_append, leF, leH_nil, leH_cons, leF_nil, lk, scp, scpL, scpO, resF, resH, resO, resV, resVL, nth, Nat.reduceBEq, Nat.reduceLT, decide_true, decide_false, List.length, List.length_cons, List.length_nil, Nat.reduceAdd, Bool.and_self, Bool.and_true, and_true, true_and, numF] <;> try simp); exact ⟨rfl, rfl⟩))
  | true =>
   refine call_val (vs := [.int .i64 x.op]) rfl (fun W hW => branch99 x.op W) fun v hv => ⟨.bt, by rw [hv, hbr]; simp [Is], ?_⟩
   (refine Y_go 18 ?_; dsimp only [zq8t, Y_k, zq4u, zq8o, zq6n, Nat.reduceBEq, zq6k, YK, Y_gk, zq69, YR, zq5a, zq6l, zq14, Nat.reduceAdd, zq5c, zq1o, nth, zq1k, List.length_cons, List.length_nil, dropL, takeL, zq19, zq18, zq50, zq8p, zq6q, zq04, zq92, zq9b, zq0i, zq9h, zq4v, zq6p, zq0b, zq6d, zq55, zq0r, zq9e, zq9o, YG, YS, zq6b, Y_0, zq0c])
   refine ⟨fun h0 => ⟨fun h2 => ?_, fun h2 => ?_⟩, fun h0 => ?_⟩
   ·have h0 : decide (0 ≤ x.imm) = true := h0
    refine yield_rule (C' := cxOf Tryz.prog Tryz.f98 K98 T98 R') (E := ⟨b, N, st, 60, mk⟩) (i := 8) (rec := rec) (lno := lno) (keep := K33) ?_ ?_ ?_ hrec ?_ ?_ ?_ ?_ ?_ ?_
    ·rfl
    ·rfl
    ·rfl
    ·simp
    ·rfl
    ·rfl
    ·rfl
    ·exact extB_spec (by simp [extB, SO.blk, bump])
    intro J Q' hQ' hbeg hnorm hjmp
    have hF : NoPanic (fun _ _ _ => False) := fun _ _ _ h => h
    (refine Y_round hF 100 ?_; dsimp only [evL, zq8o, zq6n, Nat.reduceBEq, zq6k, setPs, zq9q, Y_k, zq4u, YK, zq8t, zq9i, normF, zq6l, zq6m, zq87, zq8j, zq86, zq8f, zq8c, zqa2])
    refine lend_rule fun a W rep => hbeg _ _ rfl ?_ a W rep
    (refine Y_round hQ' 100 ?_; dsimp only [setn, zq9y, t33n1, T33n1, zq9t, zq9q, Y_k, zq5a, zq8o, zq6n, Nat.reduceBEq, zq6l, zq6k, zq14, Nat.reduceAdd, YK, zq8t, zq5c, zq1o, nth, zq1k, List.length_cons, List.length_nil, dropL, takeL, zq19, zq18, zq4u, zq9j])
    refine call_val (vs := [.slice bA (bgL l).length bC, .int .i64 x.imm]) rfl (fun W hW => find47 hW (i := 0) rfl hbn hb0 hbs x.imm) fun v hv => ⟨.val (.int .i64 (posI (bgL l) x.imm : Int)), by rw [hv]; simp [Is], ?_⟩
    (refine still_y (by dsimp only [zq8t, zq6n, Nat.reduceBEq, zq6l, zq6k, zq5c, zq8o, zq1o, nth, zq1k, List.length_cons, List.length_nil, Nat.reduceAdd, dropL, takeL, zq19, zq18]; exact ⟨rfl, det_of_den rfl⟩) ?_; refine Y_round hQ' 100 ?_; dsimp only [zq8t, Y_k, zq5h, List.map, zq6q, repL, List.cons_append, List.nil_append, zq23, Nat.reduceMul, zq8o, zq6n, Nat.reduceBEq, zq6k, zq7u, zq73, zq0a, dropL, takeL, zq20, splice, setn, zq24, zq26, List.length_cons, List.length_nil, Nat.reduceAdd, YK, zq5l, zq6l, zq2w, nth, zq09, zq08, zq2s, zq9b, zq2r, zq2n, zq2j, zq2k, zq8l, zq8m, zq8k, denL, den, zq2l, zq2h, zq5a, zq14, zq5d, zq81, zq7n, zq1x, zq1t, zq1r, zq8s, zq9i, normF, zq6m, zq87, zq8j, zq86, zq8f, zq8c, zqa1, zqa3])
    intro g5
    refine ⟨⟨by simp only [maxLen]; omega, by omega⟩, fun A5 c5 => ?_⟩
    refine stop_rule fun a W rep => hnorm _ rfl (extB_spec (by simp [extB, SO.blk, bump])) ?_ _ a W rep
    (refine Y_go 5 ?_; dsimp only [zq8t, setn, Y_gk, zq6n, Nat.reduceBEq, zq6l, zq6k, zq69, YR, zq53, zq8o, zq0m, YK, Y_k, zq4v, zq8p, zq6p, zq0b, zq9i, normF, zq6m, zq86, zq8a, zq8c, zq87, zq9s, zq6g, YC, zq9p, Y_0])
    exact fun a W rep => sec1 A5 c5 [(posI (bgL l) x.imm : Int)] (by simp) (by rw [hgo, hbr, h0, h2]; simp) a W (rep.le (by (simp only [setn, List.nil_append, List.cons_append, leF, leH_nil, leH_cons, leF_nil, lk, scp, scpL, scpO, resF, resH, resO, resV, resVL, nth, Nat.reduceBEq, Nat.reduceLT, decide_true, decide_false, List.length, List.length_cons, List.length_nil, Nat.reduceAdd, Bool.and_self, Bool.and_true, and_true, true_and, numF] <;> try simp)) (by (simp only [setn, List.nil_append, List.cons_append, leF, leH_nil, leH_cons, leF_nil, lk, scp, scpL, scpO, resF, resH, resO, resV, resVL, nth, Nat.reduceBEq, Nat.reduceLT, decide_true, decide_false, List.length, List.length_cons, List.length_nil, Nat.reduceAdd, Bool.and_self, Bool.and_true, and_true, true_and, numF] <;> try simp); exact ⟨rfl, rfl, rfl⟩))
   ·(refine Y_go 4 ?_; dsimp only [Y_k, zq4v, zq8o, zq6n, Nat.reduceBEq, zq6k, zq8p, zq6p, zq6l, zq0c, YK, zq8t, zq9i, normF, zq6m, zq86, zq8a, zq8c, zq87, zq9s, zq6g, YC, zq9p, Y_0])
    exact fun a W rep => sec0 (by rw [hgo, hbr, h2]; simp) a W (rep.le (by (simp only [setn, List.nil_append, List.cons_append, leF, leH_nil, leH_cons, leF_nil, lk, scp, scpL, scpO, resF, resH, resO, resV, resVL, nth, Nat.reduceBEq, Nat.reduceLT, decide_true, decide_false, List.length, List.length_cons, List.length_nil, Nat.reduceAdd, Bool.and_self, Bool.and_true, and_true, true_and, numF] <;> try simp)) (by (simp only [setn, List.nil_append, List.cons_append, leF, leH_nil, leH_cons, leF_nil, lk, scp, scpL, scpO, resF, resH, resO, resV, resVL, nth, Nat.reduceBEq, Nat.reduceLT, decide_true, decide_false, List.length, List.length_cons, List.length_nil, Nat.reduceAdd, Bool.and_self, Bool.and_true, and_true, true_and, numF] <;> try simp); exact ⟨rfl, rfl⟩))
   ·have h0 : decide (0 ≤ x.imm) = false := h0
    (refine Y_go 4 ?_; dsimp only [Y_k, zq4v, zq8o, zq6n, Nat.reduceBEq, zq6k, zq8p, zq6p, zq6l, zq0c, YK, zq8t, zq9i, normF, zq6m, zq86, zq8a, zq8c, zq87, zq9s, zq6g, YC, zq9p, Y_0])
    exact fun a W rep => sec0 (by rw [hgo, hbr, h0]; simp) a W (rep.le (by (simp only [setn, List.nil_append, List.cons_append, leF, leH_nil, leH_cons, leF_nil, lk, scp, scpL, scpO, resF, resH, resO, resV, resVL, nth, Nat.reduceBEq, Nat.reduceLT, decide_true, decide_false, List.length, List.length_cons, List.length_nil, Nat.reduceAdd, Bool.and_self, Bool.and_true, and_true, true_and, numF] <;> try simp)) (by (simp only [setn, List.nil_append, List.cons_append, leF, leH_nil, leH_cons, leF_nil, lk, scp, scpL, scpO, resF, resH, resO, resV, resVL, nth, Nat.reduceBEq, Nat.reduceLT, decide_true, decide_false, List.length, List.length_cons, List.length_nil, Nat.reduceAdd, Bool.and_self, Bool.and_true, and_true, true_and, numF] <;> try simp); exact ⟨rfl, rfl⟩))
end Go.Proofs.YtlbiogokpadaoaaGreatDoor
namespace Go.Proofs.YtlbiogokpadaoaaGreatDoor
open Go Go.Sx Go.Isa
set_option maxRecDepth 100000
theorem parts33 (l : List In) (B : Option Addr) (bc : Nat) (w : World) (hl : l.length ≤ 1024) (hB : RowAt w B (cellsI l)) (hG : ShAt w) :
  CallsV Tryz.prog 33 [.slice B l.length bc] w fun v w' => ∃ (A : Option Addr) (c : Nat) (ps : List PR), v = .slice A ps.length c ∧ ps.map PR.pa = partsL l ∧ World.ownsB w' w.heap.size 35 3 (.slice A ps.length c) ps.length (cellsR ps) ∧ NxAt w' ps ∧ NxNew w.heap.size ps ∧ Fresh w w' := by
 refine calls_goM (keep := K33) (nt := 60) (svs := [.val (.slice B l.length bc)]) Tryz.func33 x33 n33 (by simp) (by simp [IsL, Is]) fun R hR => ?_
 (refine Y_goM 600 ?_; dsimp only [X33, numF, Nat.reduceAdd, zq9r, zq9q, Y_k, zq4u, zq8p, zq6u, YK, zq8t, zq9i, normF, zq6n, Nat.reduceBEq, zq6l, zq6k, zq6m, zq86, zq87, zq9y, t33n15, T33n15, zq8o, zq9j])
 refine call_own (t := 3) (sz := 1) (n := (bgL l).length) (xs := isV (bgL l)) rfl (fun W hW => (begins48 l B bc W hl (hB.keep hW.fresh') (hG.keep hW.fresh')).mono ?_) fun bA bC => ?_
 ·rintro v W' ⟨A, c, zs, rfl, h1, h2, h3, h4⟩
  have e : zs = bgL l := by
   unfold bgL
   split
   ·rename_i h; exact h1 h
   ·rename_i h; exact h2 h
  subst e; exact ⟨h3, h4⟩
 simp only [putF, List.nil_append, List.length_nil]
 (refine Y_goM 600 ?_; dsimp only [Y_k, zq5e, List.length_cons, List.length_nil, Nat.reduceAdd, List.map, zq6u, List.cons_append, List.nil_append, YK, zq8t, zq5d, zq8o, zq6n, Nat.reduceBEq, zq6k, zq6l, zq81, zq7n, zq0a, zq1x, nth, zq1t, dropL, takeL, zq1r, splice, setn, zq8s, zq9i, normF, zq6m, zq86, zq8c, zq87, zq9y, t33n14, T33n14, zq9r, zq9q, zq4u, zq8p, t33n13, T33n13, zq5c, zq1o, zq1k, zq19, zq18, zq55, zq0t, zq09, zq08, zq0q, zq6q, zq8f, zq9t, zq9v])
 intro g3
 have hbn := bgL_len l
 refine loop_go (α := List PR × Option Addr × Nat × World × Nat × List Nat × List Nat) (fun q => q.1.length ≤ (bgL l).length ∧ q.1.map PR.pa = (partsL l).take q.1.length ∧ Over ⟨w, w.heap.size, [], 60, []⟩ ⟨q.2.2.2.1, q.2.2.2.2.1, q.2.2.2.2.2.1, 60, q.2.2.2.2.2.2⟩ ∧ MarksOk ⟨w, w.heap.size, [], 60, []⟩ ⟨q.2.2.2.1, q.2.2.2.2.1, q.2.2.2.2.2.1, 60, q.2.2.2.2.2.2⟩ ∧ NxE ⟨q.2.2.2.1, q.2.2.2.2.1, q.2.2.2.2.2.1, 60, q.2.2.2.2.2.2⟩ q.1 ∧ NxNew w.heap.size q.1)
  (fun q => ⟨q.2.2.2.1, q.2.2.2.2.1, q.2.2.2.2.2.1, 60, q.2.2.2.2.2.2⟩)
  (fun q => { F := [(0, .val (.slice B l.length bc)), (3, .ptr 1 0), (4, .own 2 0), (11, .own 0 0), (12, .val (.int .i64 ((bgL l).length : Int))), (13, .val (.int .i64 (q.1.length : Int)))], H := [.own 3 0 1 bA (bgL l).length bC (isV (bgL l)), .cells g3 33 [.own 0 0], .own 35 0 3 q.2.1 q.1.length q.2.2.1 (cellsR q.1)] })
  (fun q => (bgL l).length - q.1.length) (fun _ => rfl) ?start ?round
 case start =>
  intro a W rep
  have rep1 := (rep.le (s' := { F := [(0, .val (.slice B l.length bc)), (3, .ptr 1 0), (4, .val (.slice none 0 0)), (11, .own 0 0), (12, .val (.int .i64 ((bgL l).length : Int))), (13, .val (.int .i64 0))], H := [.own 3 0 1 bA (bgL l).length bC (isV (bgL l)), .cells g3 33 [.own 0 0]] }) (by (simp only [setn, List.nil_append, List.cons_append, leF, leH_nil, leH_cons, leF_nil, lk, scp, scpL, scpO, resF, resH, resO, resV, resVL, nth, Nat.reduceBEq, Nat.reduceLT, decide_true, decide_false, List.length, List.length_cons, List.length_nil, Nat.reduceAdd, Bool.and_self, Bool.and_true, and_true, true_and, numF] <;> try simp)) (by (simp only [setn, List.nil_append, List.cons_append, leF, leH_nil, leH_cons, leF_nil, lk, scp, scpL, scpO, resF, resH, resO, resV, resVL, nth, Nat.reduceBEq, Nat.reduceLT, decide_true, decide_false, List.length, List.length_cons, List.length_nil, Nat.reduceAdd, Bool.and_self, Bool.and_true, and_true, true_and, numF] <;> try simp))).adopt 4 35 3 rfl
  refine ⟨([], none, 0, w, w.heap.size, [], []), ⟨Nat.zero_le _, rfl, Over.refl _, MarksOk.nil _ _ rfl, fun p hp => by simp at hp, NxNew.nil _⟩, rep1.le (by (simp only [setn, List.nil_append, List.cons_append, leF, leH_nil, leH_cons, leF_nil, lk, scp, scpL, scpO, resF, resH, resO, resV, resVL, nth, Nat.reduceBEq, Nat.reduceLT, decide_true, decide_false, List.length, List.length_cons, List.length_nil, Nat.reduceAdd, Bool.and_self, Bool.and_true, and_true, true_and, numF] <;> try simp)) (by (simp only [setn, List.nil_append, List.cons_append, leF, leH_nil, leH_cons, leF_nil, lk, scp, scpL, scpO, resF, resH, resO, resV, resVL, nth, Nat.reduceBEq, Nat.reduceLT, decide_true, decide_false, List.length, List.length_cons, List.length_nil, Nat.reduceAdd, Bool.and_self, Bool.and_true, and_true, true_and, numF] <;> try simp); rfl)⟩
 case round =>
  rintro ⟨ps, oA, oC, b, N, st, mk⟩ ⟨hk, hpa, hov, hmk, hnx, hnw⟩ I again
  simp only at hk hpa hov hmk hnx hnw ⊢
  have hBE : RowE ⟨b, N, st, 60, mk⟩ B (cellsI l) := (hB.toE (by simp) 60 []).over hov
  have hGE : RowE ⟨b, N, st, 60, mk⟩ (some ⟨0, 0, none⟩) shL := (RowAt.toE hG (by simp) 60 []).over hov
  (refine Y_goM 600 ?_; dsimp only [zq9y, t33n11, T33n11, zq9r, zq9q, Y_k, zq50, zq8o, zq6n, Nat.reduceBEq, zq6l, zq6k, zq04, zq92, zq9b, zq0i, zq9e, YK, zq8t, zq9i, normF, zq6m, zq86, zq87, zq8f, zq8c, t33n10, T33n10, zq9s, zq6h, zq8x, YC, zq9p, t33n9, T33n9, zq9t, zq4u, zq58, zq06, zq0y, nth, zq09, zq08, zq0v, zq5c, zq1q, zq1n, zq1c, List.nil_append, zq1b, zq18, zq89, t33n8, T33n8, zq55, zq0r, zq5g, List.map, zq6q, zq6u, zq21, zq7u, zq73, zq0a, dropL, takeL, zq20, splice, setn, zq22, zq25, zq5e, List.length_cons, List.length_nil, Nat.reduceAdd, List.cons_append, zq5d, zq7t, zq8l, zq8m, zq77, zq8k, zq1x, zq1t, zq1r, zq8s, t33n7, T33n7, zq4w, zq8p, zq0e, zq1o, zq1k, zq19, zq0t, zq0q, t33n0, T33n0, zq5a, zq14, t33n6, T33n6, zq9j, zq9u, popTo, zq6i, YP, t33n12, T33n12, zq8a, zq9x])
  refine ⟨fun hlt => ?_, fun hge => ?_⟩
  ·have hlt : ps.length < (bgL l).length := by have := of_decide_eq_true hlt; omega
   have hx : (bgL l)[ps.length]? = some (bgL l)[ps.length] := List.getElem?_eq_getElem hlt
   generalize (bgL l)[ps.length] = fr at hx
   refine ⟨⟨by omega, by omega⟩, fr, isV_get _ _ _ (by rw [show ((ps.length : Nat) : Int).toNat * 1 = ps.length by omega]; exact hx), fun g7 => ?_⟩
   have raw : ∀ (to : Int), to = toL l.length (bgL l) ps.length → G (cxM Tryz.prog Tryz.f33 K33 T33 R) ⟨b, N, st, 60, mk⟩ [.ops [⟨some 37, none, .call 67 [.tmp 33, .tmp 36]⟩], .code (.ref 2), .code (.ref 5), .blk 1, .code (.ops [⟨some 58, none, .k (.arith .add .i64 (.tmp 13) (.const (.int .i64 1)))⟩, ⟨some 13, none, .k (.mov (.tmp 58))⟩]), .lend I, .blk 0, .code (.ref 12)]
     { F := [(36, .val (.int .i64 (to - 1))), (33, .val (.slice B l.length bc)), (0, .val (.slice B l.length bc)), (3, .ptr 1 0), (4, .own 2 0), (7, .ptr 3 0), (11, .own 0 0), (12, .val (.int .i64 ((bgL l).length : Int))), (13, .val (.int .i64 (ps.length : Int)))], H := [.own 3 0 1 bA (bgL l).length bC (isV (bgL l)), .cells g3 33 [.own 0 0], .own 35 0 3 oA ps.length oC (cellsR ps), .cells g7 35 [.val (.int .i64 fr), .val (.int .i64 to), .val (.slice none 0 0)]] } := by
    intro to hto
    have htr := toL_range hx
    rw [← hto] at htr
    have hfr := bgL_range (List.mem_of_getElem? hx)
    obtain ⟨p, hp⟩ : ∃ p : Nat, (p : Int) = to - 1 := ⟨(to - 1).toNat, by omega⟩
    have hpl : p < l.length := by omega
    have hy : l[p]? = some l[p] := List.getElem?_eq_getElem hpl
    generalize l[p] = y at hy
    rw [← hp]
    refine call_rule (vs := [.slice B l.length bc, .int .i64 (p : Int)]) rfl (R := fun W v W' => ∃ g1 g2, v = .func (.func 98) #[] #[.pointer (some ⟨g1, 0, none⟩), .pointer (some ⟨g2, 0, none⟩)] ∧
     (W.heap.size ≤ g1 ∧ g1 < W'.heap.size) ∧ (W.heap.size ≤ g2 ∧ g2 < W'.heap.size) ∧ g1 ≠ g2 ∧ W'.heap[g1]? = some (.cells #[.slice B l.length bc] 22 (0, 0)) ∧ W'.heap[g2]? = some (.cells #[.int .i64 (p : Int)] 3 (0, 0)) ∧ Fresh W W') (fun W hW => goes67 B l.length bc p W) fun W v W' hW ⟨g1, g2, hv, hg1, hg2, hne, hc1, hc2, hf⟩ => ?_
    refine ⟨.fn (.func 98) [] [.ptr 4 0, .ptr 5 0], [.own 3 0 1 bA (bgL l).length bC (isV (bgL l)), .cells g3 33 [.own 0 0], .own 35 0 3 oA ps.length oC (cellsR ps), .cells g7 35 [.val (.int .i64 fr), .val (.int .i64 to), .val (.slice none 0 0)], .cells g1 22 [.val (.slice B l.length bc)], .cells g2 3 [.val (.int .i64 (p : Int))]], ?_, ?_, ?_, ?_⟩
    ·rw [hv]; simp [Is, IsL, blk, nth]
    ·exact extB_spec (by simp [extB])
    ·have k1 := hW.pushG (row := none) (e := .cells g1 22 [.val (.slice B l.length bc)]) hf.size hf.os hf.tape hf.output (fun j hj _ => hf.block j hj) (fun _ e => by cases e) (fun g' hg' => by
      simp [SO.fp] at hg'; subst hg'
      exact ⟨.inr hg1.1, hg1.2⟩) ⟨_, hc1, by simp [IsL, Is]⟩
     exact k1.cellF hc2 (fun ho => by
      have h1 : N ≤ W.heap.size := hW.floor
      have h2 : g2 < N := ho.1
      omega) (fun hm => by
      rw [fps_new, List.mem_append] at hm
      rcases hm with hm | hm
      ·have := hW.fps_lt hm; omega
      ·simp at hm; exact hne hm.symm) (by simp [IsL, Is])
    clear hc1 hc2 hf hv hW
    simp only [putF]
    (refine Y_goM 6 ?_; dsimp only [zq9i, normF, zq6n, Nat.reduceBEq, zq6l, zq6k, zq6m, zq86, zq8j, zq87, zq8f, zq8c, zq9y, t33n2, T33n2, zq9t, zq9w])
    have hcl : ∀ vs, IsL [.own 3 0 1 bA (bgL l).length bC (isV (bgL l)), .cells g3 33 [.own 0 0], .own 35 0 3 oA ps.length oC (cellsR ps), .cells g7 35 [.val (.int .i64 fr), .val (.int .i64 to), .val (.slice none 0 0)], .cells g1 22 [.val (.slice B l.length bc)], .cells g2 3 [.val (.int .i64 (p : Int))], .own 3 0 1 none 0 0 []] [.val (.int .i64 fr), .val (.int .i64 to), .val (.slice none 0 0)] vs → IsL [.own 3 0 1 bA (bgL l).length bC (isV (bgL l)), .cells g3 33 [.own 0 0], .own 35 0 3 oA ps.length oC (cellsR ps), .cells g7 35 [.val (.int .i64 fr), .val (.int .i64 to), .val (.slice none 0 0)], .cells g1 22 [.val (.slice B l.length bc)], .cells g2 3 [.val (.int .i64 (p : Int))], .own 3 0 1 none 0 0 []] [.val (.int .i64 fr), .val (.int .i64 to), .own 6 0] vs := by
     intro vs h
     simp only [IsL] at h ⊢
     obtain ⟨v1, r1, h1, ⟨v2, r2, h2, ⟨v3, r3, h3, h4, e3⟩, e2⟩, e1⟩ := h
     exact ⟨v1, r1, h1, ⟨v2, r2, h2, ⟨v3, r3, isl_nil rfl h3, h4, e3⟩, e2⟩, e1⟩
    refine G.le (E' := ⟨b, N, st, 60, mk⟩) rfl (s' := { F := [(37, .fn (.func 98) [] [.ptr 4 0, .ptr 5 0]), (0, .val (.slice B l.length bc)), (3, .ptr 1 0), (4, .own 2 0), (7, .ptr 3 0), (11, .own 0 0), (12, .val (.int .i64 ((bgL l).length : Int))), (13, .val (.int .i64 (ps.length : Int)))], H := [.own 3 0 1 bA (bgL l).length bC (isV (bgL l)), .cells g3 33 [.own 0 0], .own 35 0 3 oA ps.length oC (cellsR ps), .cells g7 35 [.val (.int .i64 fr), .val (.int .i64 to), .own 6 0], .cells g1 22 [.val (.slice B l.length bc)], .cells g2 3 [.val (.int .i64 (p : Int))], .own 3 0 1 none 0 0 []] }) (fun a W rep => ((rep.nilH 3 1).cellsTo 3 rfl hcl).le (by (simp only [setn, List.nil_append, List.cons_append, leF, leH_nil, leH_cons, leF_nil, lk, scp, scpL, scpO, resF, resH, resO, resV, resVL, nth, Nat.reduceBEq, Nat.reduceLT, decide_true, decide_false, List.length, List.length_cons, List.length_nil, Nat.reduceAdd, Bool.and_self, Bool.and_true, and_true, true_and, numF] <;> try simp)) (by (simp only [setn, List.nil_append, List.cons_append, leF, leH_nil, leH_cons, leF_nil, lk, scp, scpL, scpO, resF, resH, resO, resV, resVL, nth, Nat.reduceBEq, Nat.reduceLT, decide_true, decide_false, List.length, List.length_cons, List.length_nil, Nat.reduceAdd, Bool.and_self, Bool.and_true, and_true, true_and, numF] <;> try simp))) ?_
    refine rng33 hy hl hBE hGE ?_
    intro D A' c' zs hzs
    have hzl : zs.length ≤ 2 := by rw [hzs, List.length_map]; exact goesL_len _ _ _
    have hlen : (srtI zs).length = zs.length := srtI_len zs
    (refine Y_goM 600 ?_; dsimp only [zqa1, zq9y, t33n5, T33n5, zq9r, zq9q, Y_k, zq5a, zq8o, zq6n, Nat.reduceBEq, zq6l, zq6k, zq14, Nat.reduceAdd, YK, zq8t, zq5c, zq1o, nth, zq1k, List.length_cons, List.length_nil, dropL, takeL, zq19, zq18, zq9j])
    refine call_rule (vs := [.slice A' zs.length c']) rfl (R := fun W v W' => v = .tuple #[] ∧ HeapOk ⟨b, N, st, 60, D :: mk⟩ [.own 3 0 1 bA (bgL l).length bC (isV (bgL l)), .cells g3 33 [.own 0 0], .own 35 0 3 oA ps.length oC (cellsR ps), .cells g7 35 [.val (.int .i64 fr), .val (.int .i64 to), .own 6 0], .cells g1 22 [.val (.slice B l.length bc)], .cells g2 3 [.val (.int .i64 (p : Int))], .own 3 0 1 A' zs.length c' (isV (srtI zs)), .obj D (.deferred (some []))] W') (fun W hW => sort68 hW (i := 6) rfl (by omega)) fun W v W' hW ⟨hv, hW'⟩ => ⟨.tup [], _, by rw [hv]; simp [Is, IsL], HExt.setOwn (i := 6) rfl (Nat.le_refl _) fun _ => ⟨rfl, rfl, rfl⟩, hW', ?_⟩
    refine G.le (E' := ⟨b, N, st, 60, D :: mk⟩) rfl (s' := { F := [(37, .fn (.func 98) [] [.ptr 4 0, .ptr 5 0]), (0, .val (.slice B l.length bc)), (3, .ptr 1 0), (4, .own 2 0), (7, .ptr 3 0), (11, .own 0 0), (12, .val (.int .i64 ((bgL l).length : Int))), (13, .val (.int .i64 (ps.length : Int)))], H := [.own 3 0 1 bA (bgL l).length bC (isV (bgL l)), .cells g3 33 [.own 0 0], .own 35 0 3 oA ps.length oC (cellsR ps), .cells g7 35 [.val (.int .i64 fr), .val (.int .i64 to), .own 6 0], .cells g1 22 [.val (.slice B l.length bc)], .cells g2 3 [.val (.int .i64 (p : Int))], .own 3 0 1 A' (srtI zs).length c' (isV (srtI zs)), .obj D (.deferred (some []))] }) (fun a W rep => rep.le (by simp only [putF, setn]; (simp only [setn, List.nil_append, List.cons_append, leF, leH_nil, leH_cons, leF_nil, lk, scp, scpL, scpO, resF, resH, resO, resV, resVL, nth, Nat.reduceBEq, Nat.reduceLT, decide_true, decide_false, List.length, List.length_cons, List.length_nil, Nat.reduceAdd, Bool.and_self, Bool.and_true, and_true, true_and, numF] <;> try simp)) (by simp only [setn]; (simp only [setn, List.nil_append, List.cons_append, leF, leH_nil, leH_cons, leF_nil, lk, scp, scpL, scpO, resF, resH, resO, resV, resVL, nth, Nat.reduceBEq, Nat.reduceLT, decide_true, decide_false, List.length, List.length_cons, List.length_nil, Nat.reduceAdd, Bool.and_self, Bool.and_true, and_true, true_and, numF] <;> try simp); exact hlen.symm)) ?_
    (refine Y_goM 600 ?_; dsimp only [zq9i, normF, zq6n, Nat.reduceBEq, zq6l, zq6k, zq6m, zq86, zq8j, zq87, zq8f, zq8c, zq9y, t33n4, T33n4, zq9r, zq9q, Y_k, zq5a, zq8o, zq14, Nat.reduceAdd, YK, zq8t, zq5c, zq1o, nth, zq1k, List.length_cons, List.length_nil, dropL, takeL, zq19, zq18, zq9j])
    refine call_rule (vs := [.slice A' (srtI zs).length c']) rfl (R := fun W v W' => v = .slice A' (dpI (srtI zs)).length c' ∧ HeapOk ⟨b, N, st, 60, D :: mk⟩ [.own 3 0 1 bA (bgL l).length bC (isV (bgL l)), .cells g3 33 [.own 0 0], .own 35 0 3 oA ps.length oC (cellsR ps), .cells g7 35 [.val (.int .i64 fr), .val (.int .i64 to), .own 6 0], .cells g1 22 [.val (.slice B l.length bc)], .cells g2 3 [.val (.int .i64 (p : Int))], .own 3 1 1 A' (dpI (srtI zs)).length c' (isV (dpI (srtI zs))), .obj D (.deferred (some []))] W') (fun W hW => (compact69 hW (i := 6) rfl (by omega)).mono fun v W' h => ⟨h.1, h.2.2⟩) fun W v W' hW ⟨hv, hW'⟩ => ⟨.own 6 1, _, ?_, HExt.setOwn (i := 6) rfl (show 0 ≤ 1 from Nat.le_succ 0) fun e => absurd e (by omega), hW', ?_⟩
    ·rw [hv]; simp only [Is]; exact ⟨_, _, _, _, _, _, _, rfl, Nat.le_refl _, ⟨_, _, _, rfl⟩, fun _ => rfl⟩
    simp only [setn]
    (refine Y_goM 600 ?_; dsimp only [zq8t, Y_k, zq5a, zq8o, zq6n, Nat.reduceBEq, zq6l, zq6k, zq14, Nat.reduceAdd, YK, zq5d, zq81, zq7n, zq0a, zq1x, nth, zq1t, dropL, takeL, zq1r, splice, setn, zq8s, zq9i, normF, zq6m, zq86, zq8j, zq87, zq8f, zq8c, zq9y, t33n3, T33n3, zq9q, zq4u, zq5c, zq1o, zq1k, List.length_cons, List.length_nil, zq19, zq17, zq5h, List.map, zq6q, zq6u, repL, List.cons_append, List.nil_append, zq23, Nat.reduceMul, zq7t, zq8l, zq73, zq8m, zq8k, zq20, zq24, zq26, zq5l, zq2w, zq09, zq08, zq2s, zq9b, zq2r, zq2n, zq2j, zq2k, denL, den, zq2l, zq2h, zqa1, zq4w, zq8p, zq04, zq92, zq0e, zqa2])
    intro g8
    refine ⟨⟨by simp only [maxLen]; omega, by omega⟩, fun A5 c5 => ?_⟩
    refine ⟨((ps.length + 1 : Nat) : Int), ArOk.to (by omega) (by omega) (by omega), lend_rule fun a W rep => ?_⟩
    have hpr : ∃ pr : PR, pr.pa = partL l (bgL l) ps.length ∧ pr.cells = [.int .i64 fr, .int .i64 to, .slice A' (dpI (srtI zs)).length c'] ∧ pr.A = A' ∧ pr.pa.nx = dpI (srtI zs) := by
     refine ⟨⟨⟨fr, to, dpI (srtI zs)⟩, A', c'⟩, ?_, rfl, rfl, rfl⟩
     have e1 : (bgL l).getD ps.length 0 = fr := by rw [List.getD_eq_getElem?_getD, hx]; rfl
     have e2 : (to - 1).toNat = p := by omega
     unfold partL nxL goesA upI
     rw [← hto, e1, e2, hy, ← hzs]
    obtain ⟨pr, h1, h2, h3, h4⟩ := hpr
    have rep2 : Rep ⟨b, N, st, 60, D :: mk⟩ { F := [(0, .val (.slice B l.length bc)), (3, .ptr 1 0), (4, .own 2 0), (11, .own 0 0), (12, .val (.int .i64 ((bgL l).length : Int))), (13, .val (.int .i64 ((ps ++ [pr]).length : Int)))], H := [.own 3 0 1 bA (bgL l).length bC (isV (bgL l)), .cells g3 33 [.own 0 0], .own 35 0 3 A5 (ps ++ [pr]).length c5 (cellsR (ps ++ [pr]))] ++ [.own 3 0 1 A' (dpI (srtI zs)).length c' (isV (dpI (srtI zs))), .obj D (.deferred (some []))] } a W := by
     have hl2 : (ps ++ [pr]).length = ps.length + 1 := by simp
     have hc2 : cellsR (ps ++ [pr]) = cellsR ps ++ [.int .i64 fr, .int .i64 to, .slice A' (dpI (srtI zs)).length c'] := by rw [cellsR_snoc, h2]
     rw [hl2, hc2]
     exact (rep.res.pick [0, 1, 2, 6, 7] (by decide)).le (by (simp only [renF, renV, renVL, renO, pickH, pickE, posOf, setn, List.nil_append, List.cons_append, leF, leH_nil, leH_cons, leF_nil, lk, scp, scpL, scpO, resF, resH, resO, resV, resVL, nth, Nat.reduceBEq, Nat.reduceLT, decide_true, decide_false, List.length, List.length_cons, List.length_nil, Nat.reduceAdd, Bool.and_self, Bool.and_true, and_true, true_and, numF] <;> try simp)) (by (simp only [renF, renV, renVL, renO, pickH, pickE, posOf, setn, List.nil_append, List.cons_append, leF, leH_nil, leH_cons, leF_nil, lk, scp, scpL, scpO, resF, resH, resO, resV, resVL, nth, Nat.reduceBEq, Nat.reduceLT, decide_true, decide_false, List.length, List.length_cons, List.length_nil, Nat.reduceAdd, Bool.and_self, Bool.and_true, and_true, true_and, numF] <;> try simp))
    obtain ⟨rep3, ov⟩ := rep2.cut (H1 := [.own 3 0 1 bA (bgL l).length bC (isV (bgL l)), .cells g3 33 [.own 0 0], .own 35 0 3 A5 (ps ++ [pr]).length c5 (cellsR (ps ++ [pr]))]) rfl (rep2.le (s' := { F := [(0, .val (.slice B l.length bc)), (3, .ptr 1 0), (4, .own 2 0), (11, .own 0 0), (12, .val (.int .i64 ((bgL l).length : Int))), (13, .val (.int .i64 ((ps ++ [pr]).length : Int)))], H := [.own 3 0 1 bA (bgL l).length bC (isV (bgL l)), .cells g3 33 [.own 0 0], .own 35 0 3 A5 (ps ++ [pr]).length c5 (cellsR (ps ++ [pr]))] }) (by (simp only [setn, List.nil_append, List.cons_append, leF, leH_nil, leH_cons, leF_nil, lk, scp, scpL, scpO, resF, resH, resO, resV, resVL, nth, Nat.reduceBEq, Nat.reduceLT, decide_true, decide_false, List.length, List.length_cons, List.length_nil, Nat.reduceAdd, Bool.and_self, Bool.and_true, and_true, true_and, numF] <;> try simp)) (by (simp only [setn, List.nil_append, List.cons_append, leF, leH_nil, leH_cons, leF_nil, lk, scp, scpL, scpO, resF, resH, resO, resV, resVL, nth, Nat.reduceBEq, Nat.reduceLT, decide_true, decide_false, List.length, List.length_cons, List.length_nil, Nat.reduceAdd, Bool.and_self, Bool.and_true, and_true, true_and, numF] <;> try simp))).frame
    ·have hrow := rep2.heap.rowOff (i := 0) rfl 60 (D :: mk)
     obtain ⟨hD1, hD2, hD3⟩ := rep2.heap.objOff (i := 1) rfl 60 (D :: mk)
     have ov' := ov
     replace ov := (Over.env (E := ⟨b, N, st, 60, mk⟩) (A := ⟨b, N, st, 60, mk⟩) (B := ⟨b, N, st, 60, D :: mk⟩) rfl rfl rfl (Over.refl _)).trans ov
     refine again (ps ++ [pr], A5, c5, W, W.heap.size, _, D :: mk) ⟨by simp; omega, ?_, hov.trans ov, hmk.more ov rfl hD1 hD2 hD3 hov, ?_, hnw.snoc fun a ha => ?_⟩ (by simp; omega) a W rep3
     ·simp only [List.map_append, List.map_cons, List.map_nil, List.length_append, List.length_cons, List.length_nil]
      rw [List.take_add_one, partsL_get hlt, hpa, h1]; rfl
     ·refine (hnx.over ov).snoc ?_
      rw [h3, h4]; exact hrow
     ·rw [h3] at ha
      have h5 := (rep2.heap.off (i := 0) (g := a.block) rfl (by rw [ha]; rfl)).2.2
      refine Classical.byContradiction fun hlt => h5 ?_
      exact hov.sub _ ⟨by show a.block < w.heap.size; omega, by simp⟩
   refine ⟨((ps.length + 1 : Nat) : Int), ArOk.to (by omega) (by omega) (by omega), fun hlt2 => ⟨((ps.length + 1 : Nat) : Int), ArOk.to (by omega) (by omega) (by omega), ⟨by omega, of_decide_eq_true hlt2⟩, ?_⟩, fun hge2 => ?_⟩
   ·have hlt2 : ps.length + 1 < (bgL l).length := by have := of_decide_eq_true hlt2; omega
    have hy : (bgL l)[ps.length + 1]? = some (bgL l)[ps.length + 1] := List.getElem?_eq_getElem hlt2
    generalize (bgL l)[ps.length + 1] = to at hy
    have hr := bgL_range (List.mem_of_getElem? hy)
    refine ⟨to, isV_get _ _ _ (by rw [show ((ps.length + 1 : Nat) : Int).toNat * 1 = ps.length + 1 by omega]; exact hy), ?_⟩
    exact ⟨to - 1, ArOk.toSub (by omega) (by omega) (by omega), fun a W rep => raw to (by unfold toL; rw [hy]; rfl) a W (rep.le (by (simp only [setn, List.nil_append, List.cons_append, leF, leH_nil, leH_cons, leF_nil, lk, scp, scpL, scpO, resF, resH, resO, resV, resVL, nth, Nat.reduceBEq, Nat.reduceLT, decide_true, decide_false, List.length, List.length_cons, List.length_nil, Nat.reduceAdd, Bool.and_self, Bool.and_true, and_true, true_and, numF] <;> try simp)) (by (simp only [setn, List.nil_append, List.cons_append, leF, leH_nil, leH_cons, leF_nil, lk, scp, scpL, scpO, resF, resH, resO, resV, resVL, nth, Nat.reduceBEq, Nat.reduceLT, decide_true, decide_false, List.length, List.length_cons, List.length_nil, Nat.reduceAdd, Bool.and_self, Bool.and_true, and_true, true_and, numF] <;> try simp)))⟩
   ·have hge2 : ¬ ps.length + 1 < (bgL l).length := by have := of_decide_eq_false hge2; omega
    exact ⟨(l.length : Int) - 1, ArOk.toSub (by omega) (by omega) (by omega), fun a W rep => raw l.length (by unfold toL; rw [List.getElem?_eq_none (by omega)]; rfl) a W (rep.le (by (simp only [setn, List.nil_append, List.cons_append, leF, leH_nil, leH_cons, leF_nil, lk, scp, scpL, scpO, resF, resH, resO, resV, resVL, nth, Nat.reduceBEq, Nat.reduceLT, decide_true, decide_false, List.length, List.length_cons, List.length_nil, Nat.reduceAdd, Bool.and_self, Bool.and_true, and_true, true_and, numF] <;> try simp)) (by (simp only [setn, List.nil_append, List.cons_append, leF, leH_nil, leH_cons, leF_nil, lk, scp, scpL, scpO, resF, resH, resO, resV, resVL, nth, Nat.reduceBEq, Nat.reduceLT, decide_true, decide_false, List.length, List.length_cons, List.length_nil, Nat.reduceAdd, Bool.and_self, Bool.and_true, and_true, true_and, numF] <;> try simp)))⟩
  ·have hk : ps.length = (bgL l).length := by have := of_decide_eq_false hge; omega
   refine ret_marks (vs := [.slice oA ps.length oC]) r33 rfl hmk.nodup hmk.here fun W W' hW hkp _ => hR _ _ ⟨oA, oC, ps, rfl, ?_, ?_, hnx.atM hmk hW hkp, hnw, ?_⟩
   ·rw [hpa, List.take_of_length_le (by rw [partsL_len]; omega)]
   ·exact (hmk.heap hov hW hkp).owns (i := 2) rfl
   ·exact (hmk.heap hov hW hkp).fresh'
end Go.Proofs.YtlbiogokpadaoaaGreatDoor
