/- What the document marks as reached, round by round. -/
import Derived.Test.YtgghmmjoplddbaaDoorFlPlain
import Derived.Test.YtgghmmjoplddbaaDoorDFlWd
import Derived.Test.YtgghmmjoplddbaaDoorDRpW1
import Derived.Test.YtgghmmjoplddbaaDoorDFlCodeP
set_option linter.unusedSimpArgs false
set_option linter.unusedVariables false
set_option linter.unnecessarySimpa false
namespace Go.Isa
open Go
def cntT (os : List Bool) : Nat := os.countP fun b => b
theorem cntT_set : ∀ (os : List Bool) (n : Nat), os[n]? = some false → cntT (os.set n true) = cntT os + 1
 | [], n, h => by simp at h
 | b :: os, 0, h => by
  simp at h; subst h
  unfold cntT; simp
 | b :: os, n + 1, h => by
  have ih := cntT_set os n (by simpa using h)
  unfold cntT at ih ⊢
  rw [List.set_cons_succ, List.countP_cons, List.countP_cons]; omega
theorem set_same {os : List Bool} {n : Nat} (h : os[n]? = some true) : os.set n true = os := by
 apply List.ext_getElem?
 intro j
 rw [List.getElem?_set]
 by_cases e : n = j
 ·subst e
  have := (List.getElem?_eq_some_iff.1 h).1
  rw [if_pos rfl, if_pos this, h]
 ·rw [if_neg e]
structure MkOk (nx : List (List Int)) (wo : Int) (os : List Bool) : Prop where
 len : os.length = nx.length
 snd : ∀ i : Nat, os[i]? = some true → Rch nx wo i
 zero : 0 < nx.length → wo ≠ 0 → os[0]? = some true
def ClOk (nx : List (List Int)) (wo : Int) (os : List Bool) : Prop := ∀ (i : Nat) (s : List Int) (j : Nat), os[i]? = some true → nx[i]? = some s → (j : Int) ∈ s → j < nx.length → (j : Int) ≠ wo → os[j]? = some true
theorem MkOk.start (nx : List (List Int)) (wo : Int) : MkOk nx wo (if 0 < nx.length ∧ wo ≠ 0 then (List.replicate nx.length false).set 0 true else List.replicate nx.length false) := by
 have hno : ∀ i : Nat, (List.replicate nx.length false)[i]? ≠ some true := by
  intro i h
  rw [List.getElem?_replicate] at h
  split at h <;> simp at h
 split
 ·rename_i h
  refine ⟨by simp, fun i hi => ?_, fun _ _ => by rw [List.getElem?_set, if_pos rfl, if_pos (by simp; exact h.1)]⟩
  rw [List.getElem?_set] at hi
  split at hi
  ·rename_i e; subst e; exact .base h.1 h.2
  ·exact absurd hi (hno i)
 ·rename_i h
  exact ⟨by simp, fun i hi => absurd hi (hno i), fun h1 h2 => absurd ⟨h1, h2⟩ h⟩
theorem MkOk.fin {nx : List (List Int)} {wo : Int} {os : List Bool} (h : MkOk nx wo os) (hc : ClOk nx wo os) : ReachOk nx wo os := ⟨h.len, fun i b hb => by
 have all : ∀ i, Rch nx wo i → os[i]? = some true := by
  intro i hi
  induction hi with
  | base h1 h2 => exact h.zero h1 h2
  | step _ hs hj hl hne ih => exact hc _ _ _ ih hs hj hl hne
 constructor
 ·intro e; subst e; exact h.snd i hb
 ·intro hi
  have := all i hi
  rw [hb] at this; injection this⟩
theorem MkOk.set {nx : List (List Int)} {wo : Int} {os : List Bool} {i j : Nat} {s : List Int} (h : MkOk nx wo os) (hi : os[i]? = some true) (hs : nx[i]? = some s) (hj : (j : Int) ∈ s) (hl : j < nx.length) (hne : (j : Int) ≠ wo) : MkOk nx wo (os.set j true) :=
 ⟨by rw [List.length_set]; exact h.len, fun k hk => by
  rw [List.getElem?_set] at hk
  by_cases e : j = k
  ·subst e; exact .step (h.snd i hi) hs hj hl hne
  ·rw [if_neg e] at hk; exact h.snd k hk, fun h1 h2 => by
  rw [List.getElem?_set]
  by_cases e : j = 0
  ·rw [if_pos e, if_pos (by rw [h.len]; exact hl)]
  ·rw [if_neg e]; exact h.zero h1 h2⟩
def Sub (a b : List Bool) : Prop := b.length = a.length ∧ (∀ i : Nat, a[i]? = some true → b[i]? = some true) ∧ cntT a ≤ cntT b ∧ (cntT a = cntT b → b = a)
theorem Sub.refl (a : List Bool) : Sub a a := ⟨rfl, fun _ h => h, Nat.le_refl _, fun _ => rfl⟩
theorem Sub.set {a b : List Bool} {j : Nat} (h : Sub a b) (hj : j < b.length) : Sub a (b.set j true) := by
 have hb : b[j]? = some b[j] := List.getElem?_eq_getElem hj
 cases hv : b[j] with
 | true => rw [hv] at hb; rw [set_same hb]; exact h
 | false =>
  rw [hv] at hb
  have hc := cntT_set b j hb
  refine ⟨by rw [List.length_set]; exact h.1, fun i hi => ?_, by have := h.2.2.1; omega, fun e => by have := h.2.2.1; omega⟩
  rw [List.getElem?_set]
  by_cases e : j = i
  ·subst e; simp [hj]
  ·rw [if_neg e]; exact h.2.1 i hi
structure RdOk (nx : List (List Int)) (wo : Int) (o0 : List Bool) (n : Nat) (os : List Bool) : Prop where
 m0 : MkOk nx wo os
 sub : Sub o0 os
 cl : ∀ (i : Nat) (s : List Int) (j : Nat), i < n → o0[i]? = some true → nx[i]? = some s → (j : Int) ∈ s → j < nx.length → (j : Int) ≠ wo → os[j]? = some true
structure PtOk (nx : List (List Int)) (wo : Int) (o0 : List Bool) (n k : Nat) (s : List Int) (os : List Bool) : Prop where
 rd : RdOk nx wo o0 n os
 pt : os[n]? = some true → ∀ (k' : Nat) (j : Nat), k' < k → s[k']? = some (j : Int) → j < nx.length → (j : Int) ≠ wo → os[j]? = some true
 on : 0 < k → os[n]? = some true
theorem RdOk.pt {nx : List (List Int)} {wo : Int} {o0 os : List Bool} {n : Nat} (h : RdOk nx wo o0 n os) (s : List Int) : PtOk nx wo o0 n 0 s os := ⟨h, fun _ k' j hk => by omega, fun h => by omega⟩
theorem PtOk.skip {nx : List (List Int)} {wo : Int} {o0 os : List Bool} {n k : Nat} {s : List Int} {j : Int} (h : PtOk nx wo o0 n k s os) (hon : os[n]? = some true) (hk : s[k]? = some j) (hj : j = wo) : PtOk nx wo o0 n (k + 1) s os := ⟨h.rd, fun ho k' j' hk' hs hl hne => by
 by_cases e : k' = k
 ·subst e; rw [hk] at hs; injection hs with hs; omega
 ·exact h.pt ho k' j' (by omega) hs hl hne, fun _ => hon⟩
theorem PtOk.mark {nx : List (List Int)} {wo : Int} {o0 os : List Bool} {n k : Nat} {s : List Int} {j : Nat} (h : PtOk nx wo o0 n k s os) (hon : os[n]? = some true) (hs : nx[n]? = some s) (hk : s[k]? = some (j : Int)) (hl : j < nx.length) (hne : (j : Int) ≠ wo) : PtOk nx wo o0 n (k + 1) s (os.set j true) := by
 have hol : j < os.length := by rw [h.rd.m0.len]; exact hl
 have up : ∀ i : Nat, os[i]? = some true → (os.set j true)[i]? = some true := fun i hi => by
  rw [List.getElem?_set]
  by_cases e : j = i
  ·subst e; simp [hol]
  ·rw [if_neg e]; exact hi
 refine ⟨⟨h.rd.m0.set hon hs (List.mem_of_getElem? hk) hl hne, h.rd.sub.set hol, fun i s' j' h1 h2 h3 h4 h5 h6 => up _ (h.rd.cl i s' j' h1 h2 h3 h4 h5 h6)⟩, fun _ k' j' hk' hs' hl' hne' => ?_, fun _ => up _ hon⟩
 by_cases e : k' = k
 ·subst e
  rw [hk] at hs'; injection hs' with hs'
  have : j' = j := by omega
  subst this
  rw [List.getElem?_set]; simp [hol]
 ·exact up _ (h.pt hon k' j' (by omega) hs' hl' hne')
theorem PtOk.next {nx : List (List Int)} {wo : Int} {o0 os : List Bool} {n k : Nat} {s : List Int} (h : PtOk nx wo o0 n k s os) (hs : nx[n]? = some s) (hend : k = s.length ∨ os[n]? = some false) : RdOk nx wo o0 (n + 1) os := ⟨h.rd.m0, h.rd.sub, fun i s' j hi h0 hs' hj hl hne => by
 by_cases e : i = n
 ·subst e
  rw [hs] at hs'; injection hs' with hs'; subst hs'
  have ho := h.rd.sub.2.1 _ h0
  rcases hend with hk | hk
  ·obtain ⟨k', hk'⟩ := List.getElem?_of_mem hj
   have hk'l := (List.getElem?_eq_some_iff.1 hk').1
   exact h.pt ho k' j (by omega) hk' hl hne
  ·rw [ho] at hk; cases hk
 ·exact h.rd.cl i s' j (by omega) h0 hs' hj hl hne⟩
structure RsOk (nx : List (List Int)) (wo : Int) (r : Nat) (os : List Bool) : Prop where
 m0 : MkOk nx wo os
 far : ClOk nx wo os ∨ r ≤ cntT os
theorem RsOk.rd {nx : List (List Int)} {wo : Int} {r : Nat} {os : List Bool} (h : RsOk nx wo r os) : RdOk nx wo os 0 os := ⟨h.m0, Sub.refl _, fun i s j h => by omega⟩
theorem RdOk.rs {nx : List (List Int)} {wo : Int} {r : Nat} {o0 os : List Bool} (h0 : RsOk nx wo r o0) (h : RdOk nx wo o0 nx.length os) : RsOk nx wo (r + 1) os := by
 refine ⟨h.m0, ?_⟩
 have closed : os = o0 → ClOk nx wo os := fun e i s j hi hs hj hl hne => by
  have hil : i < nx.length := by rw [← h.m0.len]; exact (List.getElem?_eq_some_iff.1 hi).1
  exact h.cl i s j hil (by rw [← e]; exact hi) hs hj hl hne
 by_cases e : cntT o0 = cntT os
 ·exact .inl (closed (h.sub.2.2.2 e))
 ·rcases h0.far with hc | hc
  ·-- closed before: nothing more can be marked; what is marked is reached, and so was marked
   refine .inl ?_
   have hr := h0.m0.fin hc
   have hl0 := h0.m0.len
   have : os = o0 := by
    apply List.ext_getElem?
    intro i
    rcases Nat.lt_or_ge i nx.length with hi | hi
    ·have i1 : i < os.length := by rw [h.m0.len]; exact hi
     have i2 : i < o0.length := by rw [hl0]; exact hi
     have e1 : os[i]? = some os[i] := List.getElem?_eq_getElem i1
     have e2 : o0[i]? = some o0[i] := List.getElem?_eq_getElem i2
     rw [e1, e2]
     congr 1
     cases ha : os[i] with
     | true =>
      rw [ha] at e1
      exact ((hr.2 i _ e2).2 (h.m0.snd i e1)).symm
     | false =>
      cases hb : o0[i] with
      | false => rfl
      | true =>
       rw [hb] at e2
       have := h.sub.2.1 i e2
       rw [e1, ha] at this; cases this
    ·rw [List.getElem?_eq_none (by rw [h.m0.len]; exact hi), List.getElem?_eq_none (by rw [hl0]; exact hi)]
   exact closed this
  ·have := h.sub.2.2.1
   exact .inr (by omega)
theorem RsOk.start {nx : List (List Int)} {wo : Int} {os : List Bool} (h : MkOk nx wo os) : RsOk nx wo 0 os := ⟨h, .inr (Nat.zero_le _)⟩
theorem RsOk.fin {nx : List (List Int)} {wo : Int} {os : List Bool} (h : RsOk nx wo nx.length os) : ReachOk nx wo os := by
 rcases h.far with hc | hc
 ·exact h.m0.fin hc
 ·-- all are marked
  have hall : ∀ i : Nat, i < os.length → os[i]? = some true := by
   have : os.countP (fun b => b) = os.length := Nat.le_antisymm List.countP_le_length (by rw [h.m0.len]; exact hc)
   rw [List.countP_eq_length] at this
   intro i hi
   have e : os[i]? = some os[i] := List.getElem?_eq_getElem hi
   rw [e, this _ (List.getElem_mem hi)]
  exact h.m0.fin fun i s j _ _ _ hl _ => hall j (by rw [h.m0.len]; exact hl)
end Go.Isa
namespace Go.Proofs.YtgghmmjoplddbaaDoor
open Go Go.Sx Go.Isa
set_option maxRecDepth 100000
theorem bools18 (os : List Bool) (A B : Option Addr) (c d : Nat) (w : World) (hl : os.length ≤ 1000000) (hA : RowAt w A (bsV os)) (hB : RowAt w B (bsV os)) : CallsV Tryd.prog 18 [.slice A os.length c, .slice B os.length d] w fun v w' => v = .bool true ∧ Fresh w w' := by
 refine calls_go (keep := K18) (nt := 26) (svs := [.val (.slice A os.length c), .val (.slice B os.length d)]) Tryd.func18 x18 n18 (by simp) (by simp [IsL, Is]) fun R hR => ?_
 (refine Y_go 600 ?_; dsimp only [X18, numF, Nat.reduceAdd, zq9r, zq9q, Y_k, zq4u, zq8p, zq6p, YK, zq8t, zq9i, normF, zq6n, Nat.reduceBEq, zq6l, zq6k, zq6m, zq86, zq8a, zq87, zq9y, t18n7, T18n7, zq8o, zq55, zq0r, zq50, zq04, zq92, zq9b, zq0i, zq9d, zq9s, zq6h, zq8x, YC, t18n0, T18n0, zq89, zq9x, zq9p, t18n6, T18n6, zq6q, zq9t, zq9v])
 refine ⟨fun h => absurd h (by simp), fun _ => ?_⟩
 refine loop_go (α := Nat) (fun i => i ≤ os.length) (fun _ => ⟨w, w.heap.size, [], 26, []⟩) (fun i => { F := [(0, .val (.slice A os.length c)), (1, .val (.slice B os.length d)), (5, .val (.int .i64 (i : Int)))], H := [] }) (fun i => os.length - i) (fun _ => rfl) ?start ?round
 case start =>
  intro a W rep
  exact ⟨0, Nat.zero_le _, rep.le (by (simp only [setn, List.nil_append, List.cons_append, leF, leH_nil, leH_cons, leF_nil, lk, scp, scpL, scpO, resF, resH, resO, resV, resVL, nth, Nat.reduceBEq, Nat.reduceLT, decide_true, decide_false, List.length, List.length_cons, List.length_nil, Nat.reduceAdd, Bool.and_self, Bool.and_true, and_true, true_and, numF] <;> try simp)) (by (simp only [setn, List.nil_append, List.cons_append, leF, leH_nil, leH_cons, leF_nil, lk, scp, scpL, scpO, resF, resH, resO, resV, resVL, nth, Nat.reduceBEq, Nat.reduceLT, decide_true, decide_false, List.length, List.length_cons, List.length_nil, Nat.reduceAdd, Bool.and_self, Bool.and_true, and_true, true_and, numF] <;> try simp))⟩
 case round =>
  intro i hi I again
  have hi : i ≤ os.length := hi
  have hi1 : ((i : Nat) : Int).toNat = i := by omega
  (refine Y_go 600 ?_; dsimp only [zq9y, t18n4, T18n4, zq9r, zq9q, Y_k, zq4u, zq8o, zq6n, Nat.reduceBEq, zq6l, zq6k, YK, zq8t, zq55, zq0r, zq50, zq04, zq92, zq9b, zq0i, zq9e, zq9i, normF, zq6m, zq86, zq87, zq9s, zq6h, zq8x, YC, zq9p, t18n3, T18n3, zq9t, zq58, zq06, zq0w, zq5c, zq1p, zq1d, List.nil_append, zq1b, zq18, zq51, zq8w, zq0j, zq89, t18n1, T18n1, zq8p, zq6p, zq8a, zq9x, zqa1, t18n2, T18n2, zq4w, zq6q, zq0e, zqa2, zq9u, popTo, zq6i, YP, t18n5, T18n5, zq6o])
  refine ⟨fun hlt => ?_, fun _ => ret_rule (vs := [.bool true]) r18 rfl rfl fun W hW => hR _ _ ⟨rfl, hW.fresh'⟩⟩
  have hlt : i < os.length := by have := of_decide_eq_true hlt; omega
  have hb : os[i]? = some os[i] := List.getElem?_eq_getElem hlt
  generalize os[i] = b at hb
  have sA := hA.isSome (j := i) (by rw [bsV_len]; exact hlt)
  have sB := hB.isSome (j := i) (by rw [bsV_len]; exact hlt)
  rw [hi1]
  exact ⟨⟨by omega, by omega, sA⟩, b, hA.cell (by rw [Nat.mul_one]; exact bsV_get hb), ⟨by omega, by omega, sB⟩, b, hB.cell (by rw [Nat.mul_one]; exact bsV_get hb), fun h => absurd h (by simp), fun _ => ⟨((i + 1 : Nat) : Int), ArOk.to (by omega) (by omega) (by omega), lend_rule fun a W rep => again (i + 1) (by show i + 1 ≤ _; omega) (by show _ - (i + 1) < _ - i; omega) a W (rep.le (by (simp only [setn, List.nil_append, List.cons_append, leF, leH_nil, leH_cons, leF_nil, lk, scp, scpL, scpO, resF, resH, resO, resV, resVL, nth, Nat.reduceBEq, Nat.reduceLT, decide_true, decide_false, List.length, List.length_cons, List.length_nil, Nat.reduceAdd, Bool.and_self, Bool.and_true, and_true, true_and, numF] <;> try simp)) (by (simp only [setn, List.nil_append, List.cons_append, leF, leH_nil, leH_cons, leF_nil, lk, scp, scpL, scpO, resF, resH, resO, resV, resVL, nth, Nat.reduceBEq, Nat.reduceLT, decide_true, decide_false, List.length, List.length_cons, List.length_nil, Nat.reduceAdd, Bool.and_self, Bool.and_true, and_true, true_and, numF] <;> try simp)))⟩⟩
theorem reached17 (ps : List PR) (wo : Int) (B : Option Addr) (bc : Nat) (w : World) (hl : ps.length ≤ 100000) (hB : RowAt w B (cellsR ps)) (hN : NxAt w ps) (hnn : ∀ s ∈ nxs ps, s.length ≤ 2 ∧ ∀ j ∈ s, (0 : Int) ≤ j ∧ j < ps.length) :
  CallsV Tryd.prog 17 [.slice B ps.length bc, .int .i64 wo] w (ReachR (nxs ps) wo w) := by
 refine calls_go (keep := K17) (nt := 70) (svs := [.val (.slice B ps.length bc), .val (.int .i64 wo)]) Tryd.func17 x17 n17 (by simp) (by simp [IsL, Is]) fun R hR => ?_
 have hnl : (nxs ps).length = ps.length := by simp [nxs]
 (refine Y_go 600 ?_; dsimp only [X17, numF, Nat.reduceAdd, zq9r, zq9q, Y_k, zq4u, zq8p, zq6u, YK, zq8t, zq9i, normF, zq6n, Nat.reduceBEq, zq6l, zq6k, zq6m, zq86, zq87, zq9y, t17n14, T17n14, zq8o, zq55, zq0r, zq67, zq06, zq4t, List.length_nil, List.nil_append, zq8f, t17n13, T17n13, zq50, zq6q, zq04, zq92, zq9b, zq0i, zq9g, Y_gk, zq6d, YR, zq69, zq9d, zq4v, zq6p, zq0b, zq9s, zq6h, zq8x, YC, t17n0, T17n0, zq58, zq0y, nth, zq09, zq08, zq0v, Int.reduceToNat, Nat.reduceMul, zq5d, zq6o, zq7v, zq7h, zq0a, zq1y, zq1w, denL, den, zq1v, splice, setn, zq8s, zq89, t17n12, T17n12, zq9t, zq9v, zq9p, zq8a, YS, zq6b, zq0c, zq6g])
 refine ⟨⟨by omega, by omega, by omega, by omega⟩, fun g => ?_⟩
 have raw : ∀ (os : List Bool) (F : List (Nat × SV)), MkOk (nxs ps) wo os → leF 1 F [(0, .val (.slice B ps.length bc)), (1, .val (.int .i64 wo)), (5, .own 0 0), (6, .val (.int .i64 0))] → G (cxOf Tryd.prog Tryd.f17 K17 T17 R) ⟨w, w.heap.size, [], 70, []⟩ [.code (XC.ref 10).loop, .blk 0, .code (.ref 11)] { F := F, H := [.own 4 0 1 (some ⟨g, 0, none⟩) ps.length ps.length (bsV os)] } := by
  intro os F hm hF
  refine loop_go (α := Nat × List Bool) (fun q => q.1 ≤ ps.length ∧ RsOk (nxs ps) wo q.1 q.2) (fun _ => ⟨w, w.heap.size, [], 70, []⟩) (fun q => { F := [(0, .val (.slice B ps.length bc)), (1, .val (.int .i64 wo)), (5, .own 0 0), (6, .val (.int .i64 (q.1 : Int)))], H := [.own 4 0 1 (some ⟨g, 0, none⟩) ps.length ps.length (bsV q.2)] }) (fun q => ps.length - q.1) (fun _ => rfl) ?start ?round
  case start =>
   intro a W rep
   exact ⟨(0, os), ⟨Nat.zero_le _, RsOk.start hm⟩, rep.le hF (by (simp only [setn, List.nil_append, List.cons_append, leF, leH_nil, leH_cons, leF_nil, lk, scp, scpL, scpO, resF, resH, resO, resV, resVL, nth, Nat.reduceBEq, Nat.reduceLT, decide_true, decide_false, List.length, List.length_cons, List.length_nil, Nat.reduceAdd, Bool.and_self, Bool.and_true, and_true, true_and, numF] <;> try simp))⟩
  case round =>
   clear hm hF
   rintro ⟨r, o0⟩ ⟨hr, h0⟩ I again
   simp only at hr h0 ⊢
   (refine Y_go 600 ?_; dsimp only [zq9y, t17n10, T17n10, zq9r, zq9q, Y_k, zq4u, zq8o, zq6n, Nat.reduceBEq, zq6l, zq6k, YK, zq8t, zq55, zq0r, zq50, zq04, zq92, zq9b, zq0i, zq9e, zq9i, normF, zq6m, zq86, zq87, zq8f, zq9s, zq6h, zq8x, YC, zq9p, t17n9, T17n9, zq9t, zq8p, zq6q, zq89, zq9v, zq9u, popTo, zq6i, YP, t17n11, T17n11, zq8a, zq9x])
   refine ⟨fun hlt => ?_, fun hge => ?_⟩
   ·have hlt : r < ps.length := by have := of_decide_eq_true hlt; omega
    refine loop_go (α := Nat × List Bool) (fun q => q.1 ≤ ps.length ∧ RdOk (nxs ps) wo o0 q.1 q.2) (fun _ => ⟨w, w.heap.size, [], 70, []⟩) (fun q => { F := [(0, .val (.slice B ps.length bc)), (1, .val (.int .i64 wo)), (5, .own 0 0), (6, .val (.int .i64 (r : Int))), (7, .val (.int .i64 (q.1 : Int)))], H := [.own 4 0 1 (some ⟨g, 0, none⟩) ps.length ps.length (bsV q.2)] }) (fun q => ps.length - q.1) (fun _ => rfl) ?start2 ?round2
    case start2 =>
     intro a W rep
     exact ⟨(0, o0), ⟨Nat.zero_le _, h0.rd⟩, rep.le (by (simp only [setn, List.nil_append, List.cons_append, leF, leH_nil, leH_cons, leF_nil, lk, scp, scpL, scpO, resF, resH, resO, resV, resVL, nth, Nat.reduceBEq, Nat.reduceLT, decide_true, decide_false, List.length, List.length_cons, List.length_nil, Nat.reduceAdd, Bool.and_self, Bool.and_true, and_true, true_and, numF] <;> try simp)) (by (simp only [setn, List.nil_append, List.cons_append, leF, leH_nil, leH_cons, leF_nil, lk, scp, scpL, scpO, resF, resH, resO, resV, resVL, nth, Nat.reduceBEq, Nat.reduceLT, decide_true, decide_false, List.length, List.length_cons, List.length_nil, Nat.reduceAdd, Bool.and_self, Bool.and_true, and_true, true_and, numF] <;> try simp))⟩
    case round2 =>
     rintro ⟨n, o1⟩ ⟨hn, h1⟩ I2 again2
     simp only at hn h1 ⊢
     (refine Y_go 600 ?_; dsimp only [zq9y, t17n7, T17n7, zq9r, zq9q, Y_k, zq4u, zq8o, zq6n, Nat.reduceBEq, zq6l, zq6k, YK, zq8t, zq55, zq0r, zq50, zq04, zq92, zq9b, zq0i, zq9e, zq9i, normF, zq6m, zq86, zq87, zq8f, zq9s, zq6h, zq8x, YC, zq9p, t17n6, T17n6, zq9t, zq8p, zq6q, zq89, zq9v, zq9u, popTo, zq6i, YP, zqa1, t17n8, T17n8, zq4w, zq0e, zq8a, zqa2])
     refine ⟨fun hltn => ?_, fun hgen => ?_⟩
     ·have hltn : n < ps.length := by have := of_decide_eq_true hltn; omega
      have hn1 : ((n : Nat) : Int).toNat = n := by omega
      have hp : ps[n]? = some ps[n] := List.getElem?_eq_getElem hltn
      have hpm := List.mem_of_getElem? hp
      generalize ps[n] = p at hp hpm
      have hs : (nxs ps)[n]? = some p.pa.nx := by unfold nxs; rw [List.getElem?_map, hp]; rfl
      have hsr := hnn p.pa.nx (List.mem_of_getElem? hs)
      have q2 : CellAt ⟨w, w.heap.size, [], 70, []⟩ B (n * 3 + 2) (.slice p.A p.pa.nx.length p.c) := hB.cell (by rw [cellsR_get hp (by omega)]; rfl)
      have sB : B.isSome = true := by obtain ⟨a, h, _⟩ := q2; rw [h]; rfl
      have bd : (0 : Int) ≤ (n : Int) ∧ (n : Int) < (ps.length : Int) ∧ B.isSome = true := ⟨by omega, by omega, sB⟩
      have kx := hN p hpm
      refine loop_go (α := Nat × List Bool) (fun q => q.1 ≤ p.pa.nx.length ∧ PtOk (nxs ps) wo o0 n q.1 p.pa.nx q.2) (fun _ => ⟨w, w.heap.size, [], 70, []⟩) (fun q => { F := [(0, .val (.slice B ps.length bc)), (1, .val (.int .i64 wo)), (5, .own 0 0), (6, .val (.int .i64 (r : Int))), (7, .val (.int .i64 (n : Int))), (8, .val (.int .i64 (q.1 : Int)))], H := [.own 4 0 1 (some ⟨g, 0, none⟩) ps.length ps.length (bsV q.2)] }) (fun q => p.pa.nx.length - q.1) (fun _ => rfl) ?start3 ?round3
      case start3 =>
       intro a W rep
       exact ⟨(0, o1), ⟨Nat.zero_le _, h1.pt _⟩, rep.le (by (simp only [setn, List.nil_append, List.cons_append, leF, leH_nil, leH_cons, leF_nil, lk, scp, scpL, scpO, resF, resH, resO, resV, resVL, nth, Nat.reduceBEq, Nat.reduceLT, decide_true, decide_false, List.length, List.length_cons, List.length_nil, Nat.reduceAdd, Bool.and_self, Bool.and_true, and_true, true_and, numF] <;> try simp)) (by (simp only [setn, List.nil_append, List.cons_append, leF, leH_nil, leH_cons, leF_nil, lk, scp, scpL, scpO, resF, resH, resO, resV, resVL, nth, Nat.reduceBEq, Nat.reduceLT, decide_true, decide_false, List.length, List.length_cons, List.length_nil, Nat.reduceAdd, Bool.and_self, Bool.and_true, and_true, true_and, numF] <;> try simp))⟩
      case round3 =>
       rintro ⟨k, os⟩ ⟨hk, hpt⟩ I3 again3
       simp only at hk hpt ⊢
       have hol : os.length = ps.length := by rw [hpt.rd.m0.len, hnl]
       have hk1 : ((k : Nat) : Int).toNat = k := by omega
       have hb : os[n]? = some os[n] := List.getElem?_eq_getElem (by omega)
       generalize os[n] = b at hb
       have n64 : ArOk .add .i64 (n : Int) 1 ((n + 1 : Nat) : Int) := ArOk.to (by omega) (by omega) (by omega)
       have k64 : ArOk .add .i64 (k : Int) 1 ((k + 1 : Nat) : Int) := ArOk.to (by omega) (by omega) (by omega)
       (refine Y_go 600 ?_; dsimp only [zq9y, t17n4, T17n4, zq9r, zq9q, Y_k, zq4u, zq8o, zq6n, Nat.reduceBEq, zq6l, zq6k, YK, zq8t, zq58, zq06, zq0w, zq5a, zq16, zq5c, zq1p, zq1g, List.nil_append, zq1b, zq18, zq55, zq0r, zq50, zq04, zq92, zq9b, zq0i, zq9e, Y_gk, zq6d, YR, zq69, zq0y, nth, zq09, zq08, zq0v, zq1q, zq1n, zq1d, zq4v, zq8p, zq6p, zq0b, zq9i, normF, zq6m, zq86, zq87, zq8f, zq9s, zq6h, zq8x, YC, zq9p, t17n3, T17n3, zq9t, zq1c, zq9d, zq89, t17n1, T17n1, zq5d, zq6o, zq7v, zq7h, zq0a, zq1y, zq1w, denL, den, zq1v, splice, setn, zq8s, zqa1, t17n2, T17n2, zq4w, zq6q, zq0e, zqa2, zq8a, zq9u, popTo, zq6i, YP, t17n5, T17n5, YS, zq6b, zq0c, zq6g])
       rw [hn1]
       refine ⟨bd, sB, _, _, _, q2, fun hlt3 => ⟨⟨by omega, by omega⟩, b, by rw [Nat.mul_one]; exact bsV_get hb, fun hbt => ?_, fun hbf => ⟨_, n64, lend_rule fun a W rep => again2 (n + 1, os) ⟨by simp only; omega, hpt.next hs (.inr (by rw [hb, hbf]))⟩ (by simp only; omega) a W (rep.le (by (simp only [setn, List.nil_append, List.cons_append, leF, leH_nil, leH_cons, leF_nil, lk, scp, scpL, scpO, resF, resH, resO, resV, resVL, nth, Nat.reduceBEq, Nat.reduceLT, decide_true, decide_false, List.length, List.length_cons, List.length_nil, Nat.reduceAdd, Bool.and_self, Bool.and_true, and_true, true_and, numF] <;> try simp)) (by (simp only [setn, List.nil_append, List.cons_append, leF, leH_nil, leH_cons, leF_nil, lk, scp, scpL, scpO, resF, resH, resO, resV, resVL, nth, Nat.reduceBEq, Nat.reduceLT, decide_true, decide_false, List.length, List.length_cons, List.length_nil, Nat.reduceAdd, Bool.and_self, Bool.and_true, and_true, true_and, numF] <;> try simp)))⟩⟩, fun hge3 => ⟨_, n64, lend_rule fun a W rep => again2 (n + 1, os) ⟨by simp only; omega, hpt.next hs (.inl (by have := of_decide_eq_false hge3; omega))⟩ (by simp only; omega) a W (rep.le (by (simp only [setn, List.nil_append, List.cons_append, leF, leH_nil, leH_cons, leF_nil, lk, scp, scpL, scpO, resF, resH, resO, resV, resVL, nth, Nat.reduceBEq, Nat.reduceLT, decide_true, decide_false, List.length, List.length_cons, List.length_nil, Nat.reduceAdd, Bool.and_self, Bool.and_true, and_true, true_and, numF] <;> try simp)) (by (simp only [setn, List.nil_append, List.cons_append, leF, leH_nil, leH_cons, leF_nil, lk, scp, scpL, scpO, resF, resH, resO, resV, resVL, nth, Nat.reduceBEq, Nat.reduceLT, decide_true, decide_false, List.length, List.length_cons, List.length_nil, Nat.reduceAdd, Bool.and_self, Bool.and_true, and_true, true_and, numF] <;> try simp)))⟩⟩
       have hlt3 : k < p.pa.nx.length := by have := of_decide_eq_true hlt3; omega
       subst hbt
       have hj : p.pa.nx[k]? = some p.pa.nx[k] := List.getElem?_eq_getElem hlt3
       have hjr := hsr.2 _ (List.getElem_mem hlt3)
       generalize p.pa.nx[k] = j' at hj hjr
       obtain ⟨j, rfl⟩ : ∃ j : Nat, (j : Int) = j' := ⟨j'.toNat, by omega⟩
       have hj1 : ((j : Nat) : Int).toNat = j := by omega
       have qj : CellAt ⟨w, w.heap.size, [], 70, []⟩ p.A (k * 1) (.int .i64 (j : Int)) := kx.cell (by rw [Nat.mul_one]; exact isV_get _ _ _ hj)
       have sN : p.A.isSome = true := by obtain ⟨a, h, _⟩ := qj; rw [h]; rfl
       rw [hk1]
       refine ⟨bd, sB, _, _, _, q2, ⟨by omega, by omega, sN⟩, _, qj, fun hne => ?_, fun heq => ⟨_, k64, lend_rule fun a W rep => again3 (k + 1, os) ⟨by simp only; omega, hpt.skip hb hj (by simpa using heq)⟩ (by simp only; omega) a W (rep.le (by (simp only [setn, List.nil_append, List.cons_append, leF, leH_nil, leH_cons, leF_nil, lk, scp, scpL, scpO, resF, resH, resO, resV, resVL, nth, Nat.reduceBEq, Nat.reduceLT, decide_true, decide_false, List.length, List.length_cons, List.length_nil, Nat.reduceAdd, Bool.and_self, Bool.and_true, and_true, true_and, numF] <;> try simp)) (by (simp only [setn, List.nil_append, List.cons_append, leF, leH_nil, leH_cons, leF_nil, lk, scp, scpL, scpO, resF, resH, resO, resV, resVL, nth, Nat.reduceBEq, Nat.reduceLT, decide_true, decide_false, List.length, List.length_cons, List.length_nil, Nat.reduceAdd, Bool.and_self, Bool.and_true, and_true, true_and, numF] <;> try simp)))⟩⟩
       have hne : (j : Int) ≠ wo := by simpa using hne
       refine ⟨bd, sB, _, _, _, q2, ⟨by omega, by omega, sN⟩, _, qj, ⟨by omega, by omega⟩, by rw [bsV_len]; omega, _, k64, lend_rule fun a W rep => again3 (k + 1, os.set j true) ⟨by simp only; omega, hpt.mark hb hs hj (by rw [hnl]; omega) hne⟩ (by simp only; omega) a W (rep.le (by (simp only [setn, List.nil_append, List.cons_append, leF, leH_nil, leH_cons, leF_nil, lk, scp, scpL, scpO, resF, resH, resO, resV, resVL, nth, Nat.reduceBEq, Nat.reduceLT, decide_true, decide_false, List.length, List.length_cons, List.length_nil, Nat.reduceAdd, Bool.and_self, Bool.and_true, and_true, true_and, numF] <;> try simp)) (by rw [hj1, Nat.mul_one, bsV_set]; (simp only [setn, List.nil_append, List.cons_append, leF, leH_nil, leH_cons, leF_nil, lk, scp, scpL, scpO, resF, resH, resO, resV, resVL, nth, Nat.reduceBEq, Nat.reduceLT, decide_true, decide_false, List.length, List.length_cons, List.length_nil, Nat.reduceAdd, Bool.and_self, Bool.and_true, and_true, true_and, numF] <;> try simp)))⟩
     ·have hne : n = ps.length := by have := of_decide_eq_false hgen; omega
      subst hne
      exact ⟨_, ArOk.to (r := ((r + 1 : Nat) : Int)) (by omega) (by omega) (by omega), lend_rule fun a W rep => again (r + 1, o1) ⟨by simp only; omega, RdOk.rs h0 (by rw [hnl]; exact h1)⟩ (by simp only; omega) a W (rep.le (by (simp only [setn, List.nil_append, List.cons_append, leF, leH_nil, leH_cons, leF_nil, lk, scp, scpL, scpO, resF, resH, resO, resV, resVL, nth, Nat.reduceBEq, Nat.reduceLT, decide_true, decide_false, List.length, List.length_cons, List.length_nil, Nat.reduceAdd, Bool.and_self, Bool.and_true, and_true, true_and, numF] <;> try simp)) (by (simp only [setn, List.nil_append, List.cons_append, leF, leH_nil, leH_cons, leF_nil, lk, scp, scpL, scpO, resF, resH, resO, resV, resVL, nth, Nat.reduceBEq, Nat.reduceLT, decide_true, decide_false, List.length, List.length_cons, List.length_nil, Nat.reduceAdd, Bool.and_self, Bool.and_true, and_true, true_and, numF] <;> try simp)))⟩
   ·have hre : r = ps.length := by have := of_decide_eq_false hge; omega
    subst hre
    have hfin := (hnl ▸ h0 : RsOk (nxs ps) wo (nxs ps).length o0).fin
    have hol : o0.length = ps.length := by rw [hfin.1, hnl]
    refine ret_rule (vs := [.slice (some ⟨g, 0, none⟩) ps.length ps.length]) r17 rfl rfl fun W hW => hR _ _ ⟨some ⟨g, 0, none⟩, ps.length, o0, by rw [hol]; rfl, hfin, ?_, hW.fresh'⟩
    rw [hol]; exact hW.owns (i := 0) rfl
 have hst := MkOk.start (nxs ps) wo
 rw [hnl] at hst
 rw [show ((ps.length : Nat) : Int).toNat = ps.length by omega, repN_false]
 refine ⟨fun h0 => ⟨fun hw => ⟨⟨by omega, by have := of_decide_eq_true h0; omega⟩, by rw [bsV_len, List.length_replicate]; have := of_decide_eq_true h0; omega, ?_⟩, fun hw => ?_⟩, fun h0 => ?_⟩
 ·rw [bsV_set]
  rw [if_pos ⟨by have := of_decide_eq_true h0; omega, by simpa using hw⟩] at hst
  exact raw _ _ hst (by (simp only [setn, List.nil_append, List.cons_append, leF, leH_nil, leH_cons, leF_nil, lk, scp, scpL, scpO, resF, resH, resO, resV, resVL, nth, Nat.reduceBEq, Nat.reduceLT, decide_true, decide_false, List.length, List.length_cons, List.length_nil, Nat.reduceAdd, Bool.and_self, Bool.and_true, and_true, true_and, numF] <;> try simp))
 ·rw [if_neg (fun h => h.2 (by simpa using hw))] at hst
  exact raw _ _ hst (by (simp only [setn, List.nil_append, List.cons_append, leF, leH_nil, leH_cons, leF_nil, lk, scp, scpL, scpO, resF, resH, resO, resV, resVL, nth, Nat.reduceBEq, Nat.reduceLT, decide_true, decide_false, List.length, List.length_cons, List.length_nil, Nat.reduceAdd, Bool.and_self, Bool.and_true, and_true, true_and, numF] <;> try simp))
 ·rw [if_neg (fun h => by have := of_decide_eq_false h0; omega)] at hst
  exact raw _ _ hst (by (simp only [setn, List.nil_append, List.cons_append, leF, leH_nil, leH_cons, leF_nil, lk, scp, scpL, scpO, resF, resH, resO, resV, resVL, nth, Nat.reduceBEq, Nat.reduceLT, decide_true, decide_false, List.length, List.length_cons, List.length_nil, Nat.reduceAdd, Bool.and_self, Bool.and_true, and_true, true_and, numF] <;> try simp))
end Go.Proofs.YtgghmmjoplddbaaDoor
