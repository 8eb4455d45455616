/- The plain law of histories (1): events, attempts, and how a history is split into them. No program in sight. -/
import Derived.Test.YtbkpiljencaoeaaSxGhost
set_option linter.unusedSimpArgs false
set_option linter.unusedVariables false
set_option linter.unnecessarySimpa false
namespace Go.Hs
structure Ev where
 kind : Int
 time : Int
 core : Int
 block : Int
 tr : Int
 lane : Int
 addr : Int
 value : Int
 code : Int
deriving DecidableEq, Inhabited
abbrev Pr := Int × Int
structure At where
 core : Int
 block : Int
 tr : Int
 lane : Int
 frm : Int
 point : Int
 to : Int
 loads : List Pr
 stores : List Pr
 com : Bool
 code : Int
 odd : Bool
 touched : List Int
deriving Inhabited
def findN : List Pr → Int → Option Nat
 | [], _ => none
 | p :: l, a => if p.1 = a then some 0 else (findN l a).map (· + 1)
def findI (l : List Pr) (a : Int) : Int := match findN l a with | some i => i | none => -1
theorem findN_some : ∀ {l : List Pr} {a : Int} {i : Nat}, findN l a = some i → i < l.length ∧ (l.getD i (0, 0)).1 = a ∧ ∀ j, j < i → (l.getD j (0, 0)).1 ≠ a
 | [], _, _, h => by cases h
 | p :: l, a, i, h => by
  simp only [findN] at h
  split at h
  ·rename_i e; injection h with h; subst h; exact ⟨by simp, by simpa using e, fun j hj => by omega⟩
  ·rename_i e
   cases hf : findN l a with
   | none => rw [hf] at h; cases h
   | some k =>
    rw [hf] at h; injection h with h; subst h
    obtain ⟨h1, h2, h3⟩ := findN_some hf
    refine ⟨by simpa using h1, by simpa using h2, fun j hj => ?_⟩
    cases j with
    | zero => simpa using e
    | succ j => simpa using h3 j (by have hj : j + 1 < k + 1 := hj; omega)
theorem findN_none : ∀ {l : List Pr} {a : Int}, findN l a = none → ∀ p ∈ l, p.1 ≠ a
 | [], _, _, p, hp => by simp at hp
 | q :: l, a, h, p, hp => by
  simp only [findN] at h
  split at h
  ·cases h
  ·rename_i e
   have h' : findN l a = none := by
    cases hf : findN l a with
    | none => rfl
    | some k => rw [hf] at h; cases h
   rcases List.mem_cons.1 hp with rfl | hp
   ·exact e
   ·exact findN_none h' p hp
theorem findN_at {l : List Pr} {a : Int} {i : Nat} (hi : i < l.length) (h1 : (l.getD i (0, 0)).1 = a) (h2 : ∀ j, j < i → (l.getD j (0, 0)).1 ≠ a) : findN l a = some i := by
 cases hf : findN l a with
 | none =>
  refine absurd h1 (findN_none hf _ ?_)
  rw [List.getD_eq_getElem?_getD, List.getElem?_eq_getElem hi]; exact List.getElem_mem hi
 | some k =>
  obtain ⟨k1, k2, k3⟩ := findN_some hf
  rcases Nat.lt_trichotomy i k with h | h | h
  ·exact absurd h1 (k3 i h)
  ·rw [h]
  ·exact absurd k2 (h2 k h)
theorem findI_nn (l : List Pr) (a : Int) : decide (findI l a ≥ 0) = (findN l a).isSome := by
 unfold findI
 cases findN l a with
 | none => rfl
 | some i => simp
def hardB (x : At) : Bool := x.lane == 1 || x.lane == 2
def tch (l : List Int) (a : Int) : List Int := if a ∈ l then l else l ++ [a]
def loadA (x : At) (e : Ev) : At :=
 match findN x.stores e.addr with
 | some _ => { x with touched := tch x.touched e.addr }
 | none => match findN x.loads e.addr with
  | some i => { x with touched := tch x.touched e.addr, odd := x.odd || !((x.loads.getD i (0, 0)).2 == e.value) }
  | none => { x with touched := tch x.touched e.addr, loads := x.loads ++ [(e.addr, e.value)] }
def putS (l : List Pr) (a v : Int) : List Pr := match findN l a with
 | some i => l.set i (a, v)
 | none => l ++ [(a, v)]
def hearA (x : At) (n : Int) (e : Ev) : At :=
 if e.kind = 2 then (if hardB x then { loadA x e with point := n } else loadA x e)
 else if e.kind = 3 then { x with touched := tch x.touched e.addr, stores := putS x.stores e.addr e.value }
 else if e.kind = 4 then (if hardB x then x else { x with point := n })
 else if e.kind = 5 then (if hardB x then { x with to := n, com := true, point := n } else { x with to := n, com := true })
 else if e.kind = 6 then { x with to := n, code := e.code } else x
def plainB (e : Ev) : Bool := e.kind == 7 || e.kind == 8
def wordB (e : Ev) : Bool := e.kind == 2 || (e.kind == 3 || plainB e)
def mayB (e : Ev) (x : Option At) : Bool :=
 if e.kind < 1 ∨ e.kind > 8 ∨ e.core < 0 ∨ e.core ≥ 4 ∨ (wordB e = true ∧ e.addr < 0) then false
 else if e.kind = 1 then x.isNone && (decide (e.lane ≥ 1) && (decide (e.lane ≤ 4) && (decide (e.block ≥ 0) && decide (e.tr ≥ 0))))
 else if plainB e then x.isNone
 else match x with
  | none => false
  | some x => x.block == e.block && (x.tr == e.tr && (!(e.kind == 6) || (decide (e.code ≥ 1) && decide (e.code ≤ 8))))
structure St where
 out : List At
 op : List (Int × Nat)
def opGet : List (Int × Nat) → Int → Option Nat
 | [], _ => none
 | (q, v) :: l, w => if w = q then some v else opGet l w
def opDel : List (Int × Nat) → Int → List (Int × Nat)
 | [], _ => []
 | (q, v) :: l, w => if w = q then l else (q, v) :: opDel l w
theorem opGet_mem : ∀ {l : List (Int × Nat)} {c : Int} {i : Nat}, opGet l c = some i → (c, i) ∈ l
 | [], _, _, h => by cases h
 | (q, v) :: l, c, i, h => by
  simp only [opGet] at h
  split at h
  ·rename_i e; injection h with h; subst h; subst e; simp
  ·exact List.mem_cons_of_mem _ (opGet_mem h)
theorem opGet_none : ∀ {l : List (Int × Nat)} {c : Int}, opGet l c = none → ∀ p ∈ l, p.1 ≠ c
 | [], _, _, p, hp => by simp at hp
 | (q, v) :: l, c, h, p, hp => by
  simp only [opGet] at h
  split at h
  ·cases h
  ·rename_i e
   rcases List.mem_cons.1 hp with rfl | hp
   ·exact fun e' => e e'.symm
   ·exact opGet_none h p hp
theorem opGet_of : ∀ {l : List (Int × Nat)} {c : Int} {i : Nat}, (l.map (·.1)).Nodup → (c, i) ∈ l → opGet l c = some i
 | (q, v) :: l, c, i, hn, hm => by
  simp only [List.map_cons, List.nodup_cons] at hn
  simp only [opGet]
  rcases List.mem_cons.1 hm with e | hm
  ·injection e with e1 e2; subst e1; subst e2; rw [if_pos rfl]
  ·rw [if_neg (fun e => hn.1 (by rw [← e]; exact List.mem_map.2 ⟨_, hm, rfl⟩))]
   exact opGet_of hn.2 hm
theorem opDel_mem : ∀ {l : List (Int × Nat)} {c : Int}, (l.map (·.1)).Nodup → ∀ p, p ∈ opDel l c ↔ p ∈ l ∧ p.1 ≠ c
 | [], _, _, p => by simp [opDel]
 | (q, v) :: l, c, hn, p => by
  simp only [List.map_cons, List.nodup_cons] at hn
  simp only [opDel]
  split
  ·rename_i e
   subst e
   rw [List.mem_cons]
   constructor
   ·exact fun h => ⟨.inr h, fun e => hn.1 (by rw [← e]; exact List.mem_map_of_mem (f := (·.1)) h)⟩
   ·rintro ⟨rfl | h, h2⟩
    ·exact absurd rfl h2
    ·exact h
  ·rename_i e
   rw [List.mem_cons, List.mem_cons, opDel_mem hn.2]
   constructor
   ·rintro (rfl | ⟨h1, h2⟩)
    ·exact ⟨.inl rfl, fun e' => e e'.symm⟩
    ·exact ⟨.inr h1, h2⟩
   ·rintro ⟨rfl | h1, h2⟩
    ·exact .inl rfl
    ·exact .inr ⟨h1, h2⟩
theorem opDel_sub : ∀ {l : List (Int × Nat)} {c : Int}, (opDel l c).Sublist l
 | [], _ => List.Sublist.slnil
 | (q, v) :: l, c => by
  simp only [opDel]
  split
  ·exact List.sublist_cons_self _ _
  ·exact opDel_sub.cons_cons _
def newA (e : Ev) (n : Int) : At := ⟨e.core, e.block, e.tr, e.lane, n, -1, -1, [], [], false, 0, false, []⟩
def curA (s : St) (c : Int) : Option At := (opGet s.op c).bind (s.out[·]?)
def stepS (s : St) (n : Nat) (e : Ev) : Option St :=
 if mayB e (curA s e.core) then
  if plainB e then some s
  else match opGet s.op e.core with
   | none => some ⟨s.out ++ [newA e n], s.op ++ [(e.core, s.out.length)]⟩
   | some i => some ⟨s.out.set i (hearA (s.out.getD i default) n e), if (hearA (s.out.getD i default) n e).to ≥ 0 then opDel s.op e.core else s.op⟩
 else none
def sp (h : List Ev) : Nat → Option St
 | 0 => some ⟨[], []⟩
 | n + 1 => match sp h n, h[n]? with
  | some s, some e => stepS s n e
  | _, _ => none
def splitL (h : List Ev) : Option (List At) := (sp h h.length).map (·.out)
theorem sp_none {h : List Ev} {n m : Nat} (hn : sp h n = none) (hm : n ≤ m) : sp h m = none := by
 induction m with
 | zero => have : n = 0 := by omega
           subst this; exact hn
 | succ m ih =>
  by_cases e : n = m + 1
  ·rw [← e]; exact hn
  ·simp only [sp]; rw [ih (by omega)]
theorem sp_get {h : List Ev} {n : Nat} (hn : n < h.length) {s : St} (hs : sp h n = some s) : sp h (n + 1) = stepS s n h[n] := by
 simp only [sp]; rw [hs, List.getElem?_eq_getElem hn]
theorem hear_core (x : At) (n : Int) (e : Ev) : (hearA x n e).core = x.core ∧ (hearA x n e).block = x.block ∧ (hearA x n e).tr = x.tr ∧ (hearA x n e).lane = x.lane ∧ (hearA x n e).frm = x.frm := by
 unfold hearA loadA
 repeat' split
 all_goals exact ⟨rfl, rfl, rfl, rfl, rfl⟩
theorem hear_to (x : At) (n : Int) (e : Ev) : (hearA x n e).to = if e.kind = 5 ∨ e.kind = 6 then n else x.to := by
 unfold hearA loadA
 repeat' split
 all_goals first | rfl | omega
structure Ok (s : St) (n : Nat) : Prop where
 keys : (s.op.map (·.1)).Nodup
 open_ : ∀ c i, (c, i) ∈ s.op → ∃ x, s.out[i]? = some x ∧ x.core = c ∧ x.to = -1
 shut : ∀ i x, s.out[i]? = some x → x.to = -1 → (x.core, i) ∈ s.op
 rng : ∀ x ∈ s.out, 0 ≤ x.core ∧ x.core < 4 ∧ 1 ≤ x.lane ∧ x.lane ≤ 4 ∧ 0 ≤ x.frm ∧ x.frm < n ∧ -1 ≤ x.to ∧ x.to < n ∧ -1 ≤ x.point ∧ x.point < n
 len : s.out.length ≤ n
theorem Ok.cur {s : St} {n : Nat} (h : Ok s n) {c : Int} {i : Nat} (hi : opGet s.op c = some i) : ∃ x, s.out[i]? = some x ∧ s.out.getD i default = x ∧ curA s c = some x ∧ x.core = c ∧ x.to = -1 ∧ i < s.out.length := by
 obtain ⟨x, h1, h2, h3⟩ := h.open_ c i (opGet_mem hi)
 refine ⟨x, h1, by rw [List.getD_eq_getElem?_getD, h1]; rfl, by unfold curA; rw [hi]; exact h1, h2, h3, (List.getElem?_eq_some_iff.1 h1).1⟩
theorem Ok.mt (n : Nat) : Ok ⟨[], []⟩ n := ⟨by simp, by simp, by simp, by simp, by simp⟩
theorem may_core {e : Ev} {x : Option At} (h : mayB e x = true) : 1 ≤ e.kind ∧ e.kind ≤ 8 ∧ 0 ≤ e.core ∧ e.core < 4 := by
 unfold mayB at h
 split at h
 ·cases h
 ·rename_i g; omega
theorem may_begin {e : Ev} {x : Option At} (h : mayB e x = true) (hp : plainB e = false) : (x = none ↔ e.kind = 1) ∧ (e.kind = 1 → 1 ≤ e.lane ∧ e.lane ≤ 4 ∧ 0 ≤ e.block ∧ 0 ≤ e.tr) := by
 unfold mayB at h
 split at h
 ·cases h
 ·split at h
  ·rename_i hk
   simp only [Bool.and_eq_true, decide_eq_true_eq] at h
   exact ⟨⟨fun _ => hk, fun _ => by simpa using h.1⟩, fun _ => h.2⟩
  ·rename_i hk
   rw [hp] at h
   rw [if_neg (by simp)] at h
   refine ⟨⟨fun e => ?_, fun e => absurd e hk⟩, fun e => absurd e hk⟩
   subst e; cases h
theorem may_own {e : Ev} {x : At} (h : mayB e (some x) = true) : 2 ≤ e.kind ∧ e.kind ≤ 6 ∧ e.block = x.block ∧ e.tr = x.tr ∧ (e.kind = 6 → 1 ≤ e.code ∧ e.code ≤ 8) := by
 unfold mayB at h
 split at h
 ·cases h
 ·split at h
  ·simp at h
  ·split at h
   ·simp at h
   ·rename_i h0 h1 h2
    simp only [Bool.and_eq_true, beq_iff_eq, Bool.or_eq_true, Bool.not_eq_true', decide_eq_true_eq] at h
    have h2' : e.kind ≠ 7 ∧ e.kind ≠ 8 := by
     unfold plainB at h2
     simp at h2; exact h2
    refine ⟨by omega, by omega, h.1.symm, h.2.1.symm, fun h6 => ?_⟩
    rcases h.2.2 with h3 | h3
    ·simp [h6] at h3
    ·exact h3
theorem Ok.step {s s' : St} {n : Nat} {e : Ev} (h : Ok s n) (hs : stepS s n e = some s') : Ok s' (n + 1) := by
 have wk : Ok s (n + 1) := ⟨h.keys, h.open_, h.shut, fun x hx => by have := h.rng x hx; omega, by have := h.len; omega⟩
 unfold stepS at hs
 split at hs
 ·rename_i hm
  split at hs
  ·injection hs with hs; subst hs; exact wk
  ·rename_i hp
   have hp : plainB e = false := by simpa using hp
   cases ho : opGet s.op e.core with
   | none =>
    rw [ho] at hs
    simp only at hs; injection hs with hs; subst hs
    have hc : curA s e.core = none := by unfold curA; rw [ho]; rfl
    obtain ⟨hb1, hb2⟩ := may_begin hm hp
    have hb := hb2 (hb1.1 hc)
    have hcr := may_core hm
    have hno := opGet_none ho
    refine ⟨?_, ?_, ?_, ?_, ?_⟩
    ·rw [List.map_append, List.nodup_append]
     refine ⟨h.keys, by simp, ?_⟩
     intro a ha b hb'
     simp only [List.map_cons, List.map_nil, List.mem_singleton] at hb'
     subst hb'
     obtain ⟨p, hp1, rfl⟩ := List.mem_map.1 ha
     exact hno p hp1
    ·intro c i hci
     rcases List.mem_append.1 hci with h1 | h1
     ·obtain ⟨x, h2, h3⟩ := h.open_ c i h1
      refine ⟨x, ?_, h3⟩
      rw [List.getElem?_append_left (List.getElem?_eq_some_iff.1 h2).1]; exact h2
     ·simp only [List.mem_singleton] at h1
      injection h1 with h1 h2; subst h1; subst h2
      exact ⟨newA e n, by simp, rfl, rfl⟩
    ·intro i x hi hx
     by_cases hl : i < s.out.length
     ·rw [List.getElem?_append_left hl] at hi
      exact List.mem_append_left _ (h.shut i x hi hx)
     ·have : i = s.out.length := by
       have := (List.getElem?_eq_some_iff.1 hi).1
       simp at this; omega
      subst this
      simp at hi; subst hi
      simp [newA]
    ·intro x hx
     rcases List.mem_append.1 hx with h1 | h1
     ·have := h.rng x h1; omega
     ·simp only [List.mem_singleton] at h1; subst h1
      simp only [newA]; omega
    ·have := h.len; simp; omega
   | some i =>
    rw [ho] at hs
    simp only at hs; injection hs with hs; subst hs
    obtain ⟨x, hx1, hx2, hx3, hx4, hx5, hil⟩ := h.cur ho
    rw [hx2]
    rw [hx3] at hm
    have hk := may_own hm
    obtain ⟨c1, c2, c3, c4, c5⟩ := hear_core x n e
    have hto := hear_to x n e
    have hrx := h.rng x (List.mem_of_getElem? hx1)
    have hpt : -1 ≤ (hearA x n e).point ∧ (hearA x n e).point < (n : Int) + 1 := by
     unfold hearA loadA
     repeat' split
     all_goals (try simp only) <;> omega
    have hrng : ∀ y ∈ s.out.set i (hearA x n e), 0 ≤ y.core ∧ y.core < 4 ∧ 1 ≤ y.lane ∧ y.lane ≤ 4 ∧ 0 ≤ y.frm ∧ y.frm < ((n + 1 : Nat) : Int) ∧ -1 ≤ y.to ∧ y.to < ((n + 1 : Nat) : Int) ∧ -1 ≤ y.point ∧ y.point < ((n + 1 : Nat) : Int) := by
     intro y hy
     rcases List.mem_or_eq_of_mem_set hy with h1 | rfl
     ·have := h.rng y h1; omega
     ·rw [c1, c4, c5, hto]
      refine ⟨by omega, by omega, by omega, by omega, by omega, by omega, ?_, ?_, by omega, by omega⟩ <;> split <;> omega
    by_cases hk56 : e.kind = 5 ∨ e.kind = 6
    ·rw [if_pos hk56] at hto
     rw [if_pos (by rw [hto]; omega)]
     refine ⟨h.keys.sublist (opDel_sub.map _), ?_, ?_, hrng, by simp; have := h.len; omega⟩
     ·intro c j hcj
      obtain ⟨h1, h2⟩ := (opDel_mem h.keys _).1 hcj
      obtain ⟨y, h3, h4, h5⟩ := h.open_ c j h1
      have : i ≠ j := by
       rintro rfl
       rw [hx1] at h3; injection h3 with h3; subst h3
       exact h2 (by rw [← hx4, h4])
      exact ⟨y, by rw [List.getElem?_set_ne this]; exact h3, h4, h5⟩
     ·intro j y hj hy
      by_cases hij : i = j
      ·subst hij
       rw [List.getElem?_set] at hj
       simp [hil] at hj; subst hj; omega
      ·rw [List.getElem?_set_ne hij] at hj
       refine (opDel_mem h.keys _).2 ⟨h.shut j y hj hy, fun e' => hij ?_⟩
       have := opGet_of h.keys (h.shut j y hj hy)
       have e' : y.core = e.core := e'
       rw [e', ho] at this; injection this
    ·rw [if_neg hk56] at hto
     rw [if_neg (by rw [hto, hx5]; omega)]
     refine ⟨h.keys, ?_, ?_, hrng, by simp; have := h.len; omega⟩
     ·intro c j hcj
      obtain ⟨y, h3, h4, h5⟩ := h.open_ c j hcj
      by_cases hij : i = j
      ·subst hij
       rw [hx1] at h3; injection h3 with h3; subst h3
       exact ⟨hearA x n e, by rw [List.getElem?_set]; simp [hil], by rw [c1, h4], by rw [hto, hx5]⟩
      ·exact ⟨y, by rw [List.getElem?_set_ne hij]; exact h3, h4, h5⟩
     ·intro j y hj hy
      by_cases hij : i = j
      ·subst hij
       rw [List.getElem?_set] at hj
       simp [hil] at hj; subst hj
       rw [c1]; exact h.shut i x hx1 hx5
      ·rw [List.getElem?_set_ne hij] at hj
       exact h.shut j y hj hy
 ·cases hs
theorem sp_ok {h : List Ev} : ∀ {n : Nat} {s : St}, sp h n = some s → Ok s n
 | 0, s, hs => by simp only [sp] at hs; injection hs with hs; subst hs; exact Ok.mt 0
 | n + 1, s, hs => by
  simp only [sp] at hs
  split at hs
  ·rename_i s0 e h1 h2
   exact (sp_ok h1).step hs
  ·cases hs
theorem hear_len (x : At) (n : Int) (e : Ev) : (hearA x n e).loads.length ≤ x.loads.length + 1 ∧ (hearA x n e).stores.length ≤ x.stores.length + 1 ∧ (hearA x n e).touched.length ≤ x.touched.length + 1 := by
 have ht : (tch x.touched e.addr).length ≤ x.touched.length + 1 := by unfold tch; split <;> simp
 unfold hearA loadA putS
 repeat' split
 all_goals (try simp only [List.length_append, List.length_cons, List.length_nil, List.length_set]) <;> omega
theorem sp_lens {h : List Ev} : ∀ {n : Nat} {s : St}, sp h n = some s → ∀ x ∈ s.out, x.loads.length ≤ n ∧ x.stores.length ≤ n ∧ x.touched.length ≤ n
 | 0, s, hs, x, hx => by simp only [sp] at hs; injection hs with hs; subst hs; simp at hx
 | n + 1, s, hs, x, hx => by
  simp only [sp] at hs
  split at hs
  ·rename_i s0 e h1 h2
   have ih := sp_lens h1
   have ok := sp_ok h1
   unfold stepS at hs
   split at hs
   case isFalse => cases hs
   split at hs
   ·injection hs with hs; subst hs
    have := ih x hx; omega
   ·cases ho : opGet s0.op e.core with
    | none =>
     rw [ho] at hs; simp only at hs; injection hs with hs; subst hs
     rcases List.mem_append.1 hx with h3 | h3
     ·have := ih x h3; omega
     ·simp only [List.mem_singleton] at h3; subst h3; simp [newA]
    | some i =>
     rw [ho] at hs; simp only at hs; injection hs with hs; subst hs
     obtain ⟨y, y1, y2, y3, y4, y5, y6⟩ := ok.cur ho
     rw [y2] at hx
     rcases List.mem_or_eq_of_mem_set hx with h3 | rfl
     ·have := ih x h3; omega
     ·have := ih y (List.mem_of_getElem? y1)
      have := hear_len y n e
      omega
  ·cases hs
end Go.Hs
namespace Go.Hs
open Go Go.Sx
def Ev.cells (e : Ev) : List Value := [.int .i64 e.kind, .int .i64 e.time, .int .i64 e.core, .int .i64 e.block, .int .i64 e.tr, .int .i64 e.lane, .int .i64 e.addr, .int .u64 e.value, .int .i64 e.code]
abbrev Ev.val (e : Ev) : Value := .agg e.cells.toArray
def Ev.sv (e : Ev) : List SV := [.val (.int .i64 e.kind), .val (.int .i64 e.time), .val (.int .i64 e.core), .val (.int .i64 e.block), .val (.int .i64 e.tr), .val (.int .i64 e.lane), .val (.int .i64 e.addr), .val (.int .u64 e.value), .val (.int .i64 e.code)]
theorem Ev.is (H : List SO) (e : Ev) : Is H (.agg e.sv) e.val := by simp only [Is]; exact ⟨e.cells, by simp [Ev.sv, Ev.cells, IsL, Is], rfl⟩
def cellsE (l : List Ev) : List Value := l.flatMap Ev.cells
theorem cellsE_len (l : List Ev) : (cellsE l).length = l.length * 9 := flat_len (f := Ev.cells) (sz := 9) (fun _ => rfl) l
theorem cellsE_get (l : List Ev) {i k : Nat} (hi : i < l.length) (hk : k < 9) : (cellsE l)[i * 9 + k]? = (l[i]).cells[k]? := flat_get (f := Ev.cells) (sz := 9) (fun _ => rfl) l hi hk
def prV (p : Pr) : List Value := [.int .i64 p.1, .int .u64 p.2]
def cellsPr (l : List Pr) : List Value := l.flatMap prV
theorem cellsPr_len (l : List Pr) : (cellsPr l).length = l.length * 2 := flat_len (f := prV) (sz := 2) (fun _ => rfl) l
theorem cellsPr_get (l : List Pr) {i k : Nat} (hi : i < l.length) (hk : k < 2) : (cellsPr l)[i * 2 + k]? = (prV l[i])[k]? := flat_get (f := prV) (sz := 2) (fun _ => rfl) l hi hk
theorem cellsPr_app (l m : List Pr) : cellsPr (l ++ m) = cellsPr l ++ cellsPr m := by simp [cellsPr]
structure Hd where
 g : Nat
 t : Nat
 lA : Option Addr
 lc : Nat
 sA : Option Addr
 sc : Nat
deriving Inhabited
def cellsA (x : At) (h : Hd) : List Value := [.int .i64 x.core, .int .i64 x.block, .int .i64 x.tr, .int .i64 x.lane, .int .i64 x.frm, .int .i64 x.point, .int .i64 x.to, .slice h.lA x.loads.length h.lc, .slice h.sA x.stores.length h.sc, .bool x.com, .int .i64 x.code, .bool x.odd, .map (some h.t)]
def tcV (l : List Int) : List (Value × Value) := l.map fun a => (.int .i64 a, .int .i64 1)
def quad (TA TP : TypeId) (x : At) (h : Hd) : List SO := [.row h.g TA (cellsA x h), .map h.t (tcV x.touched), .own TP 0 2 h.lA x.loads.length h.lc (cellsPr x.loads), .own TP 0 2 h.sA x.stores.length h.sc (cellsPr x.stores)]
def famQ (TA TP : TypeId) (z : List (At × Hd)) : List SO := z.flatMap fun p => quad TA TP p.1 p.2
def ptrH (h : Hd) : Value := .pointer (some ⟨h.g, 0, none⟩)
def ptrs (z : List (At × Hd)) : List Value := z.map fun p => ptrH p.2
theorem ptrs_get {z : List (At × Hd)} {i : Nat} {p : At × Hd} (h : z[i]? = some p) : (ptrs z)[i]? = some (ptrH p.2) := by
 unfold ptrs; rw [List.getElem?_map, h]; rfl
theorem famQ_shut (TA TP : TypeId) (z : List (At × Hd)) : ∀ e ∈ famQ TA TP z, scpO 0 e = true := by
 intro e he
 unfold famQ at he
 obtain ⟨p, _, hp⟩ := List.mem_flatMap.1 he
 simp only [quad, List.mem_cons, List.not_mem_nil, or_false] at hp
 rcases hp with rfl | rfl | rfl | rfl <;> rfl
theorem quad_shut (TA TP : TypeId) (x : At) (h : Hd) : ∀ e ∈ quad TA TP x h, scpO 0 e = true := by
 intro e hp
 simp only [quad, List.mem_cons, List.not_mem_nil, or_false] at hp
 rcases hp with rfl | rfl | rfl | rfl <;> rfl
theorem perm_erase {α : Type} : ∀ {l : List α} {i : Nat} {a : α}, l[i]? = some a → l.Perm (a :: l.eraseIdx i)
 | b :: l, 0, a, h => by simp at h; subst h; exact .refl _
 | b :: l, i + 1, a, h => by
  have := perm_erase (l := l) (i := i) (a := a) (by simpa using h)
  exact (this.cons b).trans (List.Perm.swap a b _)
 | [], _, _, h => by simp at h
theorem perm_set {α : Type} : ∀ {l : List α} {i : Nat} {a : α}, i < l.length → (l.set i a).Perm (a :: l.eraseIdx i)
 | b :: l, 0, a, h => .refl _
 | b :: l, i + 1, a, h => by
  have := perm_set (l := l) (i := i) (a := a) (by simpa using h)
  exact (this.cons b).trans (List.Perm.swap a b _)
 | [], _, _, h => by simp at h
theorem famQ_out (TA TP : TypeId) {z : List (At × Hd)} {i : Nat} {x : At} {h : Hd} (hi : z[i]? = some (x, h)) : (famQ TA TP z).Perm (quad TA TP x h ++ famQ TA TP (z.eraseIdx i)) :=
 (perm_erase hi).flatMap_right _
theorem famQ_in (TA TP : TypeId) {z : List (At × Hd)} {i : Nat} (x : At) (h : Hd) (hi : i < z.length) : (quad TA TP x h ++ famQ TA TP (z.eraseIdx i)).Perm (famQ TA TP (z.set i (x, h))) :=
 ((perm_set (a := (x, h)) hi).flatMap_right (fun p : At × Hd => quad TA TP p.1 p.2)).symm
theorem famQ_snoc (TA TP : TypeId) (z : List (At × Hd)) (x : At) (h : Hd) : famQ TA TP (z ++ [(x, h)]) = famQ TA TP z ++ quad TA TP x h := by
 simp [famQ]
theorem ptrs_snoc (z : List (At × Hd)) (x : At) (h : Hd) : ptrs (z ++ [(x, h)]) = ptrs z ++ [ptrH h] := by simp [ptrs]
theorem ptrs_set {z : List (At × Hd)} {i : Nat} {p : At × Hd} (hi : z[i]? = some p) (x : At) (h : Hd) (hg : h.g = p.2.g) : ptrs (z.set i (x, h)) = ptrs z := by
 unfold ptrs
 rw [List.map_set]
 apply List.ext_getElem?
 intro j
 rw [List.getElem?_set, List.getElem?_map]
 by_cases e : i = j
 ·subst e
  rw [if_pos rfl, hi]
  have := (List.getElem?_eq_some_iff.1 hi).1
  simp [this, ptrH, hg]
 ·rw [if_neg e]
theorem famQ_mem (TA TP : TypeId) {z : List (At × Hd)} {p : At × Hd} (hp : p ∈ z) : ∀ e ∈ quad TA TP p.1 p.2, e ∈ famQ TA TP z := fun e he => List.mem_flatMap.2 ⟨p, hp, he⟩
def cellsT (x : At) (h : Hd) : List Value := [.int .i64 x.core, .int .i64 x.block, .int .i64 x.tr, .int .i64 x.lane, .int .i64 x.frm, .int .i64 x.point, .int .i64 x.to, .slice h.lA x.loads.length h.lc, .slice h.sA x.stores.length h.sc, .bool x.com, .int .i64 x.code]
def cellsTs (z : List (At × Hd)) : List Value := z.flatMap fun p => cellsT p.1 p.2
theorem cellsTs_len (z : List (At × Hd)) : (cellsTs z).length = z.length * 11 := flat_len (f := fun p : At × Hd => cellsT p.1 p.2) (sz := 11) (fun _ => rfl) z
theorem cellsTs_get (z : List (At × Hd)) {i k : Nat} (hi : i < z.length) (hk : k < 11) : (cellsTs z)[i * 11 + k]? = (cellsT z[i].1 z[i].2)[k]? := flat_get (f := fun p : At × Hd => cellsT p.1 p.2) (sz := 11) (fun _ => rfl) z hi hk
theorem cellsTs_app (y z : List (At × Hd)) : cellsTs (y ++ z) = cellsTs y ++ cellsTs z := by simp [cellsTs]
def opV (z : List (At × Hd)) (op : List (Int × Nat)) : List (Value × Value) := op.map fun p => (.int .i64 p.1, (ptrs z).getD p.2 (.pointer none))
theorem keyB_int (a b : Int) : keyB (.int .i64 a) (.int .i64 b) = (a == b) := rfl
theorem mget_op (z : List (At × Hd)) : ∀ (op : List (Int × Nat)) (c : Int), mget (opV z op) (.int .i64 c) = (opGet op c).map fun i => (ptrs z).getD i (.pointer none)
 | [], _ => rfl
 | (q, v) :: op, c => by
  have ih := mget_op z op c
  simp only [opV, List.map_cons, mget, keyB_int, opGet] at ih ⊢
  by_cases e : c = q
  ·subst e; simp
  ·have : (c == q) = false := by simpa using e
   simp only [this, if_neg e]; exact ih
theorem mrem_op (z : List (At × Hd)) : ∀ (op : List (Int × Nat)) (c : Int), mrem (opV z op) (.int .i64 c) = opV z (opDel op c)
 | [], _ => rfl
 | (q, v) :: op, c => by
  have ih := mrem_op z op c
  simp only [opV, List.map_cons, mrem, keyB_int, opDel] at ih ⊢
  by_cases e : c = q
  ·subst e; simp
  ·have : (c == q) = false := by simpa using e
   simp only [this, if_neg e]; rw [ih]; rfl
theorem mput_op (z : List (At × Hd)) : ∀ (op : List (Int × Nat)) (c : Int) (u : Value), opGet op c = none → mput (opV z op) (.int .i64 c) u = opV z op ++ [(.int .i64 c, u)]
 | [], _, _, _ => rfl
 | (q, v) :: op, c, u, h => by
  simp only [opGet] at h
  split at h
  ·cases h
  ·rename_i e
   have ih := mput_op z op c u h
   have : (c == q) = false := by simpa using e
   simp only [opV, List.map_cons, mput, keyB_int, this] at ih ⊢
   rw [ih]; rfl
theorem opV_eq {z z' : List (At × Hd)} (op : List (Int × Nat)) (h : ptrs z' = ptrs z) : opV z' op = opV z op := by unfold opV; rw [h]
theorem opV_snoc {z : List (At × Hd)} (op : List (Int × Nat)) (p : At × Hd) (h : ∀ q ∈ op, q.2 < z.length) : opV (z ++ [p]) op = opV z op := by
 unfold opV
 refine List.map_congr_left fun q hq => ?_
 have := h q hq
 rw [List.getD_eq_getElem?_getD, List.getD_eq_getElem?_getD]
 simp only [ptrs, List.map_append]
 rw [List.getElem?_append_left (by simpa using this)]
theorem mput_tc : ∀ (l : List Int) (a : Int), mput (tcV l) (.int .i64 a) (.int .i64 1) = tcV (tch l a)
 | [], _ => rfl
 | b :: l, a => by
  have ih := mput_tc l a
  simp only [tcV, List.map_cons, mput, keyB_int] at ih ⊢
  by_cases e : a = b
  ·subst e; simp [tch]
  ·have : (a == b) = false := by simpa using e
   simp only [this]; rw [ih]
   unfold tch
   by_cases h : a ∈ l
   ·rw [if_pos h, if_pos (List.mem_cons_of_mem _ h)]; rfl
   ·rw [if_neg h, if_neg (by simp [e, h])]; rfl
theorem tcV_keys (l : List Int) : ∀ p ∈ tcV l, keyIs (.int .i64) p.1 = true := by
 intro p hp
 obtain ⟨a, _, rfl⟩ := List.mem_map.1 hp
 rfl
theorem opV_keys (z : List (At × Hd)) (op : List (Int × Nat)) : ∀ p ∈ opV z op, keyIs (.int .i64) p.1 = true := by
 intro p hp
 obtain ⟨a, _, rfl⟩ := List.mem_map.1 hp
 rfl
end Go.Hs
