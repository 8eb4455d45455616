/- The plain law of histories (1): events, attempts, and how a history is split into them. No program in sight. -/
set_option linter.unusedSimpArgs false
set_option linter.unusedVariables false
set_option linter.unnecessarySimpa false
namespace Go.Hs
structure Ev where
 kind : Int
 time : Int
 core : Int
 block : Int
 tr : Int
 lane : Int
 addr : Int
 value : Int
 code : Int
deriving DecidableEq, Inhabited
abbrev Pr := Int × Int
structure At where
 core : Int
 block : Int
 tr : Int
 lane : Int
 frm : Int
 point : Int
 to : Int
 loads : List Pr
 stores : List Pr
 com : Bool
 code : Int
 odd : Bool
 touched : List Int
deriving Inhabited
def findN : List Pr → Int → Option Nat
 | [], _ => none
 | p :: l, a => if p.1 = a then some 0 else (findN l a).map (· + 1)
def findI (l : List Pr) (a : Int) : Int := match findN l a with | some i => i | none => -1
theorem findN_some : ∀ {l : List Pr} {a : Int} {i : Nat}, findN l a = some i → i < l.length ∧ (l.getD i (0, 0)).1 = a ∧ ∀ j, j < i → (l.getD j (0, 0)).1 ≠ a
 | [], _, _, h => by cases h
 | p :: l, a, i, h => by
  simp only [findN] at h
  split at h
  ·rename_i e; injection h with h; subst h; exact ⟨by simp, by simpa using e, fun j hj => by omega⟩
  ·rename_i e
   cases hf : findN l a with
   | none => rw [hf] at h; cases h
   | some k =>
    rw [hf] at h; injection h with h; subst h
    obtain ⟨h1, h2, h3⟩ := findN_some hf
    refine ⟨by simpa using h1, by simpa using h2, fun j hj => ?_⟩
    cases j with
    | zero => simpa using e
    | succ j => simpa using h3 j (by have hj : j + 1 < k + 1 := hj; omega)
theorem findN_none : ∀ {l : List Pr} {a : Int}, findN l a = none → ∀ p ∈ l, p.1 ≠ a
 | [], _, _, p, hp => by simp at hp
 | q :: l, a, h, p, hp => by
  simp only [findN] at h
  split at h
  ·cases h
  ·rename_i e
   have h' : findN l a = none := by
    cases hf : findN l a with
    | none => rfl
    | some k => rw [hf] at h; cases h
   rcases List.mem_cons.1 hp with rfl | hp
   ·exact e
   ·exact findN_none h' p hp
theorem findN_at {l : List Pr} {a : Int} {i : Nat} (hi : i < l.length) (h1 : (l.getD i (0, 0)).1 = a) (h2 : ∀ j, j < i → (l.getD j (0, 0)).1 ≠ a) : findN l a = some i := by
 cases hf : findN l a with
 | none =>
  refine absurd h1 (findN_none hf _ ?_)
  rw [List.getD_eq_getElem?_getD, List.getElem?_eq_getElem hi]; exact List.getElem_mem hi
 | some k =>
  obtain ⟨k1, k2, k3⟩ := findN_some hf
  rcases Nat.lt_trichotomy i k with h | h | h
  ·exact absurd h1 (k3 i h)
  ·rw [h]
  ·exact absurd k2 (h2 k h)
theorem findI_nn (l : List Pr) (a : Int) : decide (findI l a ≥ 0) = (findN l a).isSome := by
 unfold findI
 cases findN l a with
 | none => rfl
 | some i => simp
def hardB (x : At) : Bool := x.lane == 1 || x.lane == 2
def tch (l : List Int) (a : Int) : List Int := if a ∈ l then l else l ++ [a]
def loadA (x : At) (e : Ev) : At :=
 match findN x.stores e.addr with
 | some _ => { x with touched := tch x.touched e.addr }
 | none => match findN x.loads e.addr with
  | some i => { x with touched := tch x.touched e.addr, odd := x.odd || !((x.loads.getD i (0, 0)).2 == e.value) }
  | none => { x with touched := tch x.touched e.addr, loads := x.loads ++ [(e.addr, e.value)] }
def putS (l : List Pr) (a v : Int) : List Pr := match findN l a with
 | some i => l.set i (a, v)
 | none => l ++ [(a, v)]
def hearA (x : At) (n : Int) (e : Ev) : At :=
 if e.kind = 2 then (if hardB x then { loadA x e with point := n } else loadA x e)
 else if e.kind = 3 then { x with touched := tch x.touched e.addr, stores := putS x.stores e.addr e.value }
 else if e.kind = 4 then (if hardB x then x else { x with point := n })
 else if e.kind = 5 then (if hardB x then { x with to := n, com := true, point := n } else { x with to := n, com := true })
 else if e.kind = 6 then { x with to := n, code := e.code } else x
def plainB (e : Ev) : Bool := e.kind == 7 || e.kind == 8
def wordB (e : Ev) : Bool := e.kind == 2 || (e.kind == 3 || plainB e)
def mayB (e : Ev) (x : Option At) : Bool :=
 if e.kind < 1 ∨ e.kind > 8 ∨ e.core < 0 ∨ e.core ≥ 4 ∨ (wordB e = true ∧ e.addr < 0) then false
 else if e.kind = 1 then x.isNone && (decide (e.lane ≥ 1) && (decide (e.lane ≤ 4) && (decide (e.block ≥ 0) && decide (e.tr ≥ 0))))
 else if plainB e then x.isNone
 else match x with
  | none => false
  | some x => x.block == e.block && (x.tr == e.tr && (!(e.kind == 6) || (decide (e.code ≥ 1) && decide (e.code ≤ 8))))
structure St where
 out : List At
 op : List (Int × Nat)
def opGet : List (Int × Nat) → Int → Option Nat
 | [], _ => none
 | (q, v) :: l, w => if w = q then some v else opGet l w
def opDel : List (Int × Nat) → Int → List (Int × Nat)
 | [], _ => []
 | (q, v) :: l, w => if w = q then l else (q, v) :: opDel l w
theorem opGet_mem : ∀ {l : List (Int × Nat)} {c : Int} {i : Nat}, opGet l c = some i → (c, i) ∈ l
 | [], _, _, h => by cases h
 | (q, v) :: l, c, i, h => by
  simp only [opGet] at h
  split at h
  ·rename_i e; injection h with h; subst h; subst e; simp
  ·exact List.mem_cons_of_mem _ (opGet_mem h)
theorem opGet_none : ∀ {l : List (Int × Nat)} {c : Int}, opGet l c = none → ∀ p ∈ l, p.1 ≠ c
 | [], _, _, p, hp => by simp at hp
 | (q, v) :: l, c, h, p, hp => by
  simp only [opGet] at h
  split at h
  ·cases h
  ·rename_i e
   rcases List.mem_cons.1 hp with rfl | hp
   ·exact fun e' => e e'.symm
   ·exact opGet_none h p hp
theorem opGet_of : ∀ {l : List (Int × Nat)} {c : Int} {i : Nat}, (l.map (·.1)).Nodup → (c, i) ∈ l → opGet l c = some i
 | (q, v) :: l, c, i, hn, hm => by
  simp only [List.map_cons, List.nodup_cons] at hn
  simp only [opGet]
  rcases List.mem_cons.1 hm with e | hm
  ·injection e with e1 e2; subst e1; subst e2; rw [if_pos rfl]
  ·rw [if_neg (fun e => hn.1 (by rw [← e]; exact List.mem_map.2 ⟨_, hm, rfl⟩))]
   exact opGet_of hn.2 hm
theorem opDel_mem : ∀ {l : List (Int × Nat)} {c : Int}, (l.map (·.1)).Nodup → ∀ p, p ∈ opDel l c ↔ p ∈ l ∧ p.1 ≠ c
 | [], _, _, p => by simp [opDel]
 | (q, v) :: l, c, hn, p => by
  simp only [List.map_cons, List.nodup_cons] at hn
  simp only [opDel]
  split
  ·rename_i e
   subst e
   rw [List.mem_cons]
   constructor
   ·exact fun h => ⟨.inr h, fun e => hn.1 (by rw [← e]; exact List.mem_map_of_mem (f := (·.1)) h)⟩
   ·rintro ⟨rfl | h, h2⟩
    ·exact absurd rfl h2
    ·exact h
  ·rename_i e
   rw [List.mem_cons, List.mem_cons, opDel_mem hn.2]
   constructor
   ·rintro (rfl | ⟨h1, h2⟩)
    ·exact ⟨.inl rfl, fun e' => e e'.symm⟩
    ·exact ⟨.inr h1, h2⟩
   ·rintro ⟨rfl | h1, h2⟩
    ·exact .inl rfl
    ·exact .inr ⟨h1, h2⟩
theorem opDel_sub : ∀ {l : List (Int × Nat)} {c : Int}, (opDel l c).Sublist l
 | [], _ => List.Sublist.slnil
 | (q, v) :: l, c => by
  simp only [opDel]
  split
  ·exact List.sublist_cons_self _ _
  ·exact opDel_sub.cons_cons _
def newA (e : Ev) (n : Int) : At := ⟨e.core, e.block, e.tr, e.lane, n, -1, -1, [], [], false, 0, false, []⟩
def curA (s : St) (c : Int) : Option At := (opGet s.op c).bind (s.out[·]?)
def stepS (s : St) (n : Nat) (e : Ev) : Option St :=
 if mayB e (curA s e.core) then
  if plainB e then some s
  else match opGet s.op e.core with
   | none => some ⟨s.out ++ [newA e n], s.op ++ [(e.core, s.out.length)]⟩
   | some i => some ⟨s.out.set i (hearA (s.out.getD i default) n e), if (hearA (s.out.getD i default) n e).to ≥ 0 then opDel s.op e.core else s.op⟩
 else none
def sp (h : List Ev) : Nat → Option St
 | 0 => some ⟨[], []⟩
 | n + 1 => match sp h n, h[n]? with
  | some s, some e => stepS s n e
  | _, _ => none
def splitL (h : List Ev) : Option (List At) := (sp h h.length).map (·.out)
theorem sp_none {h : List Ev} {n m : Nat} (hn : sp h n = none) (hm : n ≤ m) : sp h m = none := by
 induction m with
 | zero => have : n = 0 := by omega
           subst this; exact hn
 | succ m ih =>
  by_cases e : n = m + 1
  ·rw [← e]; exact hn
  ·simp only [sp]; rw [ih (by omega)]
theorem sp_get {h : List Ev} {n : Nat} (hn : n < h.length) {s : St} (hs : sp h n = some s) : sp h (n + 1) = stepS s n h[n] := by
 simp only [sp]; rw [hs, List.getElem?_eq_getElem hn]
theorem hear_core (x : At) (n : Int) (e : Ev) : (hearA x n e).core = x.core ∧ (hearA x n e).block = x.block ∧ (hearA x n e).tr = x.tr ∧ (hearA x n e).lane = x.lane ∧ (hearA x n e).frm = x.frm := by
 unfold hearA loadA
 repeat' split
 all_goals exact ⟨rfl, rfl, rfl, rfl, rfl⟩
theorem hear_to (x : At) (n : Int) (e : Ev) : (hearA x n e).to = if e.kind = 5 ∨ e.kind = 6 then n else x.to := by
 unfold hearA loadA
 repeat' split
 all_goals first | rfl | omega
structure Ok (s : St) (n : Nat) : Prop where
 keys : (s.op.map (·.1)).Nodup
 open_ : ∀ c i, (c, i) ∈ s.op → ∃ x, s.out[i]? = some x ∧ x.core = c ∧ x.to = -1
 shut : ∀ i x, s.out[i]? = some x → x.to = -1 → (x.core, i) ∈ s.op
 rng : ∀ x ∈ s.out, 0 ≤ x.core ∧ x.core < 4 ∧ 1 ≤ x.lane ∧ x.lane ≤ 4 ∧ 0 ≤ x.frm ∧ x.frm < n ∧ -1 ≤ x.to ∧ x.to < n ∧ -1 ≤ x.point ∧ x.point < n
 len : s.out.length ≤ n
theorem Ok.cur {s : St} {n : Nat} (h : Ok s n) {c : Int} {i : Nat} (hi : opGet s.op c = some i) : ∃ x, s.out[i]? = some x ∧ s.out.getD i default = x ∧ curA s c = some x ∧ x.core = c ∧ x.to = -1 ∧ i < s.out.length := by
 obtain ⟨x, h1, h2, h3⟩ := h.open_ c i (opGet_mem hi)
 refine ⟨x, h1, by rw [List.getD_eq_getElem?_getD, h1]; rfl, by unfold curA; rw [hi]; exact h1, h2, h3, (List.getElem?_eq_some_iff.1 h1).1⟩
theorem Ok.mt (n : Nat) : Ok ⟨[], []⟩ n := ⟨by simp, by simp, by simp, by simp, by simp⟩
theorem may_core {e : Ev} {x : Option At} (h : mayB e x = true) : 1 ≤ e.kind ∧ e.kind ≤ 8 ∧ 0 ≤ e.core ∧ e.core < 4 := by
 unfold mayB at h
 split at h
 ·cases h
 ·rename_i g; omega
theorem may_begin {e : Ev} {x : Option At} (h : mayB e x = true) (hp : plainB e = false) : (x = none ↔ e.kind = 1) ∧ (e.kind = 1 → 1 ≤ e.lane ∧ e.lane ≤ 4 ∧ 0 ≤ e.block ∧ 0 ≤ e.tr) := by
 unfold mayB at h
 split at h
 ·cases h
 ·split at h
  ·rename_i hk
   simp only [Bool.and_eq_true, decide_eq_true_eq] at h
   exact ⟨⟨fun _ => hk, fun _ => by simpa using h.1⟩, fun _ => h.2⟩
  ·rename_i hk
   rw [hp] at h
   rw [if_neg (by simp)] at h
   refine ⟨⟨fun e => ?_, fun e => absurd e hk⟩, fun e => absurd e hk⟩
   subst e; cases h
theorem may_own {e : Ev} {x : At} (h : mayB e (some x) = true) : 2 ≤ e.kind ∧ e.kind ≤ 6 ∧ e.block = x.block ∧ e.tr = x.tr ∧ (e.kind = 6 → 1 ≤ e.code ∧ e.code ≤ 8) := by
 unfold mayB at h
 split at h
 ·cases h
 ·split at h
  ·simp at h
  ·split at h
   ·simp at h
   ·rename_i h0 h1 h2
    simp only [Bool.and_eq_true, beq_iff_eq, Bool.or_eq_true, Bool.not_eq_true', decide_eq_true_eq] at h
    have h2' : e.kind ≠ 7 ∧ e.kind ≠ 8 := by
     unfold plainB at h2
     simp at h2; exact h2
    refine ⟨by omega, by omega, h.1.symm, h.2.1.symm, fun h6 => ?_⟩
    rcases h.2.2 with h3 | h3
    ·simp [h6] at h3
    ·exact h3
theorem Ok.step {s s' : St} {n : Nat} {e : Ev} (h : Ok s n) (hs : stepS s n e = some s') : Ok s' (n + 1) := by
 have wk : Ok s (n + 1) := ⟨h.keys, h.open_, h.shut, fun x hx => by have := h.rng x hx; omega, by have := h.len; omega⟩
 unfold stepS at hs
 split at hs
 ·rename_i hm
  split at hs
  ·injection hs with hs; subst hs; exact wk
  ·rename_i hp
   have hp : plainB e = false := by simpa using hp
   cases ho : opGet s.op e.core with
   | none =>
    rw [ho] at hs
    simp only at hs; injection hs with hs; subst hs
    have hc : curA s e.core = none := by unfold curA; rw [ho]; rfl
    obtain ⟨hb1, hb2⟩ := may_begin hm hp
    have hb := hb2 (hb1.1 hc)
    have hcr := may_core hm
    have hno := opGet_none ho
    refine ⟨?_, ?_, ?_, ?_, ?_⟩
    ·rw [List.map_append, List.nodup_append]
     refine ⟨h.keys, by simp, ?_⟩
     intro a ha b hb'
     simp only [List.map_cons, List.map_nil, List.mem_singleton] at hb'
     subst hb'
     obtain ⟨p, hp1, rfl⟩ := List.mem_map.1 ha
     exact hno p hp1
    ·intro c i hci
     rcases List.mem_append.1 hci with h1 | h1
     ·obtain ⟨x, h2, h3⟩ := h.open_ c i h1
      refine ⟨x, ?_, h3⟩
      rw [List.getElem?_append_left (List.getElem?_eq_some_iff.1 h2).1]; exact h2
     ·simp only [List.mem_singleton] at h1
      injection h1 with h1 h2; subst h1; subst h2
      exact ⟨newA e n, by simp, rfl, rfl⟩
    ·intro i x hi hx
     by_cases hl : i < s.out.length
     ·rw [List.getElem?_append_left hl] at hi
      exact List.mem_append_left _ (h.shut i x hi hx)
     ·have : i = s.out.length := by
       have := (List.getElem?_eq_some_iff.1 hi).1
       simp at this; omega
      subst this
      simp at hi; subst hi
      simp [newA]
    ·intro x hx
     rcases List.mem_append.1 hx with h1 | h1
     ·have := h.rng x h1; omega
     ·simp only [List.mem_singleton] at h1; subst h1
      simp only [newA]; omega
    ·have := h.len; simp; omega
   | some i =>
    rw [ho] at hs
    simp only at hs; injection hs with hs; subst hs
    obtain ⟨x, hx1, hx2, hx3, hx4, hx5, hil⟩ := h.cur ho
    rw [hx2]
    rw [hx3] at hm
    have hk := may_own hm
    obtain ⟨c1, c2, c3, c4, c5⟩ := hear_core x n e
    have hto := hear_to x n e
    have hrx := h.rng x (List.mem_of_getElem? hx1)
    have hpt : -1 ≤ (hearA x n e).point ∧ (hearA x n e).point < (n : Int) + 1 := by
     unfold hearA loadA
     repeat' split
     all_goals (try simp only) <;> omega
    have hrng : ∀ y ∈ s.out.set i (hearA x n e), 0 ≤ y.core ∧ y.core < 4 ∧ 1 ≤ y.lane ∧ y.lane ≤ 4 ∧ 0 ≤ y.frm ∧ y.frm < ((n + 1 : Nat) : Int) ∧ -1 ≤ y.to ∧ y.to < ((n + 1 : Nat) : Int) ∧ -1 ≤ y.point ∧ y.point < ((n + 1 : Nat) : Int) := by
     intro y hy
     rcases List.mem_or_eq_of_mem_set hy with h1 | rfl
     ·have := h.rng y h1; omega
     ·rw [c1, c4, c5, hto]
      refine ⟨by omega, by omega, by omega, by omega, by omega, by omega, ?_, ?_, by omega, by omega⟩ <;> split <;> omega
    by_cases hk56 : e.kind = 5 ∨ e.kind = 6
    ·rw [if_pos hk56] at hto
     rw [if_pos (by rw [hto]; omega)]
     refine ⟨h.keys.sublist (opDel_sub.map _), ?_, ?_, hrng, by simp; have := h.len; omega⟩
     ·intro c j hcj
      obtain ⟨h1, h2⟩ := (opDel_mem h.keys _).1 hcj
      obtain ⟨y, h3, h4, h5⟩ := h.open_ c j h1
      have : i ≠ j := by
       rintro rfl
       rw [hx1] at h3; injection h3 with h3; subst h3
       exact h2 (by rw [← hx4, h4])
      exact ⟨y, by rw [List.getElem?_set_ne this]; exact h3, h4, h5⟩
     ·intro j y hj hy
      by_cases hij : i = j
      ·subst hij
       rw [List.getElem?_set] at hj
       simp [hil] at hj; subst hj; omega
      ·rw [List.getElem?_set_ne hij] at hj
       refine (opDel_mem h.keys _).2 ⟨h.shut j y hj hy, fun e' => hij ?_⟩
       have := opGet_of h.keys (h.shut j y hj hy)
       have e' : y.core = e.core := e'
       rw [e', ho] at this; injection this
    ·rw [if_neg hk56] at hto
     rw [if_neg (by rw [hto, hx5]; omega)]
     refine ⟨h.keys, ?_, ?_, hrng, by simp; have := h.len; omega⟩
     ·intro c j hcj
      obtain ⟨y, h3, h4, h5⟩ := h.open_ c j hcj
      by_cases hij : i = j
      ·subst hij
       rw [hx1] at h3; injection h3 with h3; subst h3
       exact ⟨hearA x n e, by rw [List.getElem?_set]; simp [hil], by rw [c1, h4], by rw [hto, hx5]⟩
      ·exact ⟨y, by rw [List.getElem?_set_ne hij]; exact h3, h4, h5⟩
     ·intro j y hj hy
      by_cases hij : i = j
      ·subst hij
       rw [List.getElem?_set] at hj
       simp [hil] at hj; subst hj
       rw [c1]; exact h.shut i x hx1 hx5
      ·rw [List.getElem?_set_ne hij] at hj
       exact h.shut j y hj hy
 ·cases hs
theorem sp_ok {h : List Ev} : ∀ {n : Nat} {s : St}, sp h n = some s → Ok s n
 | 0, s, hs => by simp only [sp] at hs; injection hs with hs; subst hs; exact Ok.mt 0
 | n + 1, s, hs => by
  simp only [sp] at hs
  split at hs
  ·rename_i s0 e h1 h2
   exact (sp_ok h1).step hs
  ·cases hs
theorem hear_len (x : At) (n : Int) (e : Ev) : (hearA x n e).loads.length ≤ x.loads.length + 1 ∧ (hearA x n e).stores.length ≤ x.stores.length + 1 ∧ (hearA x n e).touched.length ≤ x.touched.length + 1 := by
 have ht : (tch x.touched e.addr).length ≤ x.touched.length + 1 := by unfold tch; split <;> simp
 unfold hearA loadA putS
 repeat' split
 all_goals (try simp only [List.length_append, List.length_cons, List.length_nil, List.length_set]) <;> omega
theorem sp_lens {h : List Ev} : ∀ {n : Nat} {s : St}, sp h n = some s → ∀ x ∈ s.out, x.loads.length ≤ n ∧ x.stores.length ≤ n ∧ x.touched.length ≤ n
 | 0, s, hs, x, hx => by simp only [sp] at hs; injection hs with hs; subst hs; simp at hx
 | n + 1, s, hs, x, hx => by
  simp only [sp] at hs
  split at hs
  ·rename_i s0 e h1 h2
   have ih := sp_lens h1
   have ok := sp_ok h1
   unfold stepS at hs
   split at hs
   case isFalse => cases hs
   split at hs
   ·injection hs with hs; subst hs
    have := ih x hx; omega
   ·cases ho : opGet s0.op e.core with
    | none =>
     rw [ho] at hs; simp only at hs; injection hs with hs; subst hs
     rcases List.mem_append.1 hx with h3 | h3
     ·have := ih x h3; omega
     ·simp only [List.mem_singleton] at h3; subst h3; simp [newA]
    | some i =>
     rw [ho] at hs; simp only at hs; injection hs with hs; subst hs
     obtain ⟨y, y1, y2, y3, y4, y5, y6⟩ := ok.cur ho
     rw [y2] at hx
     rcases List.mem_or_eq_of_mem_set hx with h3 | rfl
     ·have := ih x h3; omega
     ·have := ih y (List.mem_of_getElem? y1)
      have := hear_len y n e
      omega
  ·cases hs
end Go.Hs
namespace Go.Hs
def evA (h : List Ev) (n : Nat) : Ev := h.getD n default
theorem evA_get {h : List Ev} {n : Nat} {e : Ev} (he : h[n]? = some e) : evA h n = e := by unfold evA; rw [List.getD_eq_getElem?_getD, he]; rfl
theorem evA_lt {h : List Ev} {n : Nat} (hn : n < h.length) : evA h n = h[n] := evA_get (List.getElem?_eq_getElem hn)
def openR (h : List Ev) (c : Int) : Nat → Int
 | 0 => -1
 | n + 1 => if (evA h n).core = c ∧ ((evA h n).kind = 5 ∨ (evA h n).kind = 6) then -1 else if (evA h n).core = c ∧ (evA h n).kind = 1 then n else openR h c n
def may1 (h : List Ev) (o : Int) (e : Ev) : Bool :=
 !(decide (e.kind < 1) || (decide (e.kind > 8) || (decide (e.core < 0) || decide (e.core ≥ 4)))) &&
 (!(wordB e && decide (e.addr < 0)) &&
 (!(e.kind == 1 && (decide (o ≥ 0) || (decide (e.lane < 1) || (decide (e.lane > 4) || (decide (e.block < 0) || decide (e.tr < 0)))))) &&
 (!(plainB e && decide (o ≥ 0)) &&
 (!(decide (e.kind ≥ 2) && (decide (e.kind ≤ 6) && (decide (o < 0) || (!((evA h o.toNat).block == e.block) || !((evA h o.toNat).tr == e.tr))))) &&
 !(e.kind == 6 && (decide (e.code < 1) || decide (e.code > 8)))))))
def mayTo (h : List Ev) : Nat → Bool
 | 0 => true
 | n + 1 => mayTo h n && may1 h (openR h (evA h n).core n) (evA h n)
def mayL (h : List Ev) : Bool := mayTo h h.length
def ownB (x : At) (e : Ev) : Bool := e.core == x.core && (e.block == x.block && (e.tr == x.tr && (decide (e.kind ≥ 2) && decide (e.kind ≤ 6))))
def oneTo (h : List Ev) (k : Nat) : Nat → At
 | 0 => newA (evA h k) k
 | n + 1 => if k < n ∧ (oneTo h k n).to < 0 ∧ ownB (oneTo h k n) (evA h n) = true then hearA (oneTo h k n) n (evA h n) else oneTo h k n
def begs (h : List Ev) : Nat → List Nat
 | 0 => []
 | n + 1 => if (evA h n).kind = 1 then begs h n ++ [n] else begs h n
def splitR (h : List Ev) : List At := (begs h h.length).map fun k => oneTo h k h.length
theorem begs_lt (h : List Ev) : ∀ (n k : Nat), k ∈ begs h n → k < n ∧ (evA h k).kind = 1
 | 0, k, hk => by simp [begs] at hk
 | n + 1, k, hk => by
  simp only [begs] at hk
  split at hk
  ·rename_i h1
   rcases List.mem_append.1 hk with h2 | h2
   ·have := begs_lt h n k h2; exact ⟨by omega, this.2⟩
   ·simp only [List.mem_singleton] at h2; subst h2; exact ⟨by omega, h1⟩
  ·have := begs_lt h n k hk; exact ⟨by omega, this.2⟩
theorem begs_len (h : List Ev) : ∀ n, (begs h n).length ≤ n
 | 0 => Nat.le_refl _
 | n + 1 => by
  have := begs_len h n
  simp only [begs]; split <;> simp <;> omega
theorem oneTo_new (h : List Ev) (k : Nat) : ∀ n, n ≤ k + 1 → oneTo h k n = newA (evA h k) k
 | 0, _ => rfl
 | n + 1, hn => by
  simp only [oneTo]
  rw [if_neg (by omega)]
  exact oneTo_new h k n (by omega)
theorem oneTo_own (h : List Ev) (k : Nat) : ∀ n, (oneTo h k n).core = (evA h k).core ∧ (oneTo h k n).block = (evA h k).block ∧ (oneTo h k n).tr = (evA h k).tr ∧ (oneTo h k n).lane = (evA h k).lane ∧ (oneTo h k n).frm = k
 | 0 => ⟨rfl, rfl, rfl, rfl, rfl⟩
 | n + 1 => by
  have ih := oneTo_own h k n
  simp only [oneTo]
  split
  ·obtain ⟨h1, h2, h3, h4, h5⟩ := hear_core (oneTo h k n) n (evA h n)
   exact ⟨h1.trans ih.1, h2.trans ih.2.1, h3.trans ih.2.2.1, h4.trans ih.2.2.2.1, h5.trans ih.2.2.2.2⟩
  ·exact ih
structure Okh (h : List Ev) (s : St) (n : Nat) : Prop where
 ok : Ok s n
 opn : ∀ c, openR h c n = match opGet s.op c with | none => -1 | some i => (s.out.getD i default).frm
 outs : s.out = (begs h n).map fun k => oneTo h k n
theorem Okh.mt (h : List Ev) : Okh h ⟨[], []⟩ 0 := ⟨Ok.mt 0, fun _ => rfl, rfl⟩
theorem Okh.beg {h : List Ev} {s : St} {n : Nat} (k : Okh h s n) {i : Nat} {x : At} (hi : s.out[i]? = some x) : ∃ b, (begs h n)[i]? = some b ∧ x = oneTo h b n ∧ b < n ∧ (evA h b).kind = 1 := by
 rw [k.outs, List.getElem?_map] at hi
 cases hb : (begs h n)[i]? with
 | none => rw [hb] at hi; cases hi
 | some b =>
  rw [hb] at hi; injection hi with hi
  have := begs_lt h n b (List.mem_of_getElem? hb)
  exact ⟨b, rfl, hi.symm, this⟩
theorem word_iff (e : Ev) : wordB e = true ↔ e.kind = 2 ∨ e.kind = 3 ∨ e.kind = 7 ∨ e.kind = 8 := by
 unfold wordB plainB; simp
theorem plain_iff (e : Ev) : plainB e = true ↔ e.kind = 7 ∨ e.kind = 8 := by
 unfold plainB; simp
theorem may_eq {h : List Ev} {s : St} {n : Nat} (k : Okh h s n) (e : Ev) : may1 h (openR h e.core n) e = mayB e (curA s e.core) := by
 have hw := word_iff e
 have hp := plain_iff e
 rw [k.opn]
 cases ho : opGet s.op e.core with
 | none =>
  have hc : curA s e.core = none := by unfold curA; rw [ho]; rfl
  rw [hc, Bool.eq_iff_iff]
  unfold mayB may1
  simp only
  cases hwv : wordB e <;> cases hpv : plainB e <;> simp only [hwv, hpv] at hw hp ⊢ <;> (try simp at hw) <;> (try simp at hp) <;> (try simp) <;> omega
 | some i =>
  obtain ⟨x, h1, h2, h3, h4, h5, h6⟩ := k.ok.cur ho
  rw [h3]
  simp only
  rw [h2]
  have hr := k.ok.rng x (List.mem_of_getElem? h1)
  obtain ⟨b, hb1, hb2, hb3, hb4⟩ := k.beg h1
  obtain ⟨o1, o2, o3, o4, o5⟩ := oneTo_own h b n
  rw [← hb2] at o1 o2 o3 o4 o5
  have hx : evA h x.frm.toNat = evA h b := by rw [o5]; rfl
  have e1 : (x.block == e.block) = decide (x.block = e.block) := rfl
  have e2 : (x.tr == e.tr) = decide (x.tr = e.tr) := rfl
  rw [Bool.eq_iff_iff]
  unfold mayB may1
  rw [hx, ← o2, ← o3]
  simp only
  cases hwv : wordB e <;> cases hpv : plainB e <;> simp only [hwv, hpv] at hw hp ⊢ <;> (try simp at hw) <;> (try simp at hp) <;> (try simp) <;> omega
theorem oneTo_skip {h : List Ev} {k n : Nat} (hs : (oneTo h k n).to < 0 → ownB (oneTo h k n) (evA h n) = false) : oneTo h k (n + 1) = oneTo h k n := by
 simp only [oneTo]
 rw [if_neg]
 rintro ⟨_, h2, h3⟩
 rw [hs h2] at h3; cases h3
theorem map_set_ext {α β : Type} {f g : α → β} : ∀ {l : List α} {i : Nat} {y : β}, (∀ j a, l[j]? = some a → j ≠ i → f a = g a) → (∀ a, l[i]? = some a → f a = y) → l.map f = (l.map g).set i y
 | [], _, _, _, _ => rfl
 | a :: l, 0, y, h1, h2 => by
  simp only [List.map_cons, List.set_cons_zero]
  rw [h2 a rfl]
  congr 1
  exact List.map_congr_left fun b hb => by
   obtain ⟨j, hj⟩ := List.getElem?_of_mem hb
   exact h1 (j + 1) b (by simpa using hj) (by omega)
 | a :: l, i + 1, y, h1, h2 => by
  simp only [List.map_cons, List.set_cons_succ]
  rw [h1 0 a rfl (by omega)]
  congr 1
  exact map_set_ext (fun j b hj hne => h1 (j + 1) b (by simpa using hj) (by omega)) fun b hb => h2 b (by simpa using hb)
theorem Okh.step {h : List Ev} {s s' : St} {n : Nat} (k : Okh h s n) (hs : stepS s n (evA h n) = some s') : Okh h s' (n + 1) := by
 refine ⟨k.ok.step hs, ?_, ?_⟩
 ·intro c
  simp only [openR]
  unfold stepS at hs
  split at hs
  case isFalse => cases hs
  rename_i hm
  have hcr := may_core hm
  split at hs
  ·rename_i hp
   injection hs with hs; subst hs
   have := (plain_iff _).1 hp
   rw [if_neg (by omega), if_neg (by omega)]
   exact k.opn c
  ·rename_i hp
   have hp : plainB (evA h n) = false := by simpa using hp
   cases ho : opGet s.op (evA h n).core with
   | none =>
    rw [ho] at hs; simp only at hs; injection hs with hs; subst hs
    have hc : curA s (evA h n).core = none := by unfold curA; rw [ho]; rfl
    have hk := (may_begin hm hp).1.1 hc
    rw [if_neg (by omega)]
    by_cases e : (evA h n).core = c
    ·subst e
     rw [if_pos ⟨rfl, hk⟩]
     have : opGet (s.op ++ [((evA h n).core, s.out.length)]) (evA h n).core = some s.out.length := by
      refine opGet_of ((k.ok.step (e := evA h n) (s' := ⟨s.out ++ [newA (evA h n) n], s.op ++ [((evA h n).core, s.out.length)]⟩) ?_).keys) (by simp)
      unfold stepS; rw [if_pos hm, if_neg (by rw [hp]; simp), ho]
     simp only [this]
     rw [List.getD_eq_getElem?_getD]; simp [newA]
    ·rw [if_neg (by omega), k.opn c]
     have : opGet (s.op ++ [((evA h n).core, s.out.length)]) c = opGet s.op c := by
      have key : ∀ l : List (Int × Nat), opGet (l ++ [((evA h n).core, s.out.length)]) c = opGet l c := by
       intro l
       induction l with
       | nil => simp [opGet]; exact fun h => absurd h.symm e
       | cons p l ih => obtain ⟨q, v⟩ := p; simp only [List.cons_append, opGet, ih]
      exact key _
     simp only [this]
     cases hg : opGet s.op c with
     | none => rfl
     | some j =>
      obtain ⟨y, y1, y2, y3, y4, y5, y6⟩ := k.ok.cur hg
      simp only
      rw [List.getD_eq_getElem?_getD, List.getD_eq_getElem?_getD, List.getElem?_append_left y6]
   | some i =>
    rw [ho] at hs; simp only at hs; injection hs with hs; subst hs
    obtain ⟨x, h1, h2, h3, h4, h5, h6⟩ := k.ok.cur ho
    rw [h2]
    rw [h3] at hm
    have hk := may_own hm
    have hto := hear_to x n (evA h n)
    obtain ⟨c1, c2, c3, c4, c5⟩ := hear_core x n (evA h n)
    by_cases h56 : (evA h n).kind = 5 ∨ (evA h n).kind = 6
    ·rw [if_pos h56] at hto
     rw [if_pos (show (hearA x n (evA h n)).to ≥ 0 by rw [hto]; omega)]
     have hdel : ∀ c, opGet (opDel s.op (evA h n).core) c = if c = (evA h n).core then none else opGet s.op c := by
      intro c
      cases hg : opGet (opDel s.op (evA h n).core) c with
      | none =>
       split
       ·rfl
       ·rename_i hne
        cases hg2 : opGet s.op c with
        | none => rfl
        | some j => exact absurd rfl (opGet_none hg _ ((opDel_mem k.ok.keys _).2 ⟨opGet_mem hg2, hne⟩))
      | some j =>
       obtain ⟨m1, m2⟩ := (opDel_mem k.ok.keys _).1 (opGet_mem hg)
       rw [if_neg m2]
       exact (opGet_of k.ok.keys m1).symm
     simp only [hdel]
     by_cases e : (evA h n).core = c
     ·rw [if_pos ⟨e, h56⟩, if_pos e.symm]
     ·rw [if_neg (by omega), if_neg (by omega), if_neg (fun h => e h.symm), k.opn c]
      cases hg : opGet s.op c with
      | none => rfl
      | some j =>
       have hij : i ≠ j := by
        rintro rfl
        obtain ⟨y, y1, y2, y3, y4, y5, y6⟩ := k.ok.cur hg
        rw [h1] at y1; injection y1 with y1; subst y1
        exact e (by rw [← h4, y4])
       simp only
       rw [List.getD_eq_getElem?_getD, List.getD_eq_getElem?_getD, List.getElem?_set_ne hij]
    ·rw [if_neg h56] at hto
     rw [if_neg (show ¬ (hearA x n (evA h n)).to ≥ 0 by rw [hto, h5]; omega), if_neg (by omega), if_neg (by omega), k.opn c]
     cases hg : opGet s.op c with
     | none => rfl
     | some j =>
      simp only
      by_cases hij : i = j
      ·subst hij
       rw [h2, List.getD_eq_getElem?_getD, List.getElem?_set]
       simp [h6, c5]
      ·rw [List.getD_eq_getElem?_getD, List.getD_eq_getElem?_getD, List.getElem?_set_ne hij]
 ·simp only [begs]
  unfold stepS at hs
  split at hs
  case isFalse => cases hs
  rename_i hm
  have hcr := may_core hm
  have skip : ∀ b ∈ begs h n, ((oneTo h b n).to < 0 → ownB (oneTo h b n) (evA h n) = false) → oneTo h b (n + 1) = oneTo h b n := fun b _ hb => oneTo_skip hb
  split at hs
  ·rename_i hp
   injection hs with hs; subst hs
   have := (plain_iff _).1 hp
   rw [if_neg (by omega), k.outs]
   refine List.map_congr_left fun b hb => (skip b hb fun _ => ?_).symm
   unfold ownB
   rw [decide_eq_false (show ¬ (evA h n).kind ≤ 6 by omega)]; simp
  ·rename_i hp
   have hp : plainB (evA h n) = false := by simpa using hp
   cases ho : opGet s.op (evA h n).core with
   | none =>
    rw [ho] at hs; simp only at hs; injection hs with hs; subst hs
    have hc : curA s (evA h n).core = none := by unfold curA; rw [ho]; rfl
    have hk := (may_begin hm hp).1.1 hc
    rw [if_pos hk, List.map_append, List.map_cons, List.map_nil, oneTo_new h n (n + 1) (Nat.le_refl _)]
    show s.out ++ [newA (evA h n) n] = _
    congr 1
    rw [k.outs]
    refine List.map_congr_left fun b hb => (skip b hb fun _ => ?_).symm
    unfold ownB
    rw [decide_eq_false (show ¬ (evA h n).kind ≥ 2 by omega)]; simp
   | some i =>
    rw [ho] at hs; simp only at hs; injection hs with hs; subst hs
    obtain ⟨x, h1, h2, h3, h4, h5, h6⟩ := k.ok.cur ho
    rw [h3] at hm
    have hk := may_own hm
    have hne1 : ¬ (evA h n).kind = 1 := by omega
    rw [if_neg hne1, h2]
    symm
    show _ = s.out.set i _
    conv => rhs; rw [k.outs]
    refine map_set_ext (fun j b hj hne => ?_) fun b hb => ?_
    ·refine skip b (List.mem_of_getElem? hj) fun hto => ?_
     have hy : s.out[j]? = some (oneTo h b n) := by rw [k.outs, List.getElem?_map, hj]; rfl
     have hr := k.ok.rng _ (List.mem_of_getElem? hy)
     have hop := opGet_of k.ok.keys (k.ok.shut j _ hy (by omega))
     unfold ownB
     have : ((evA h n).core == (oneTo h b n).core) = false := by
      rw [beq_eq_false_iff_ne]
      intro e
      rw [← e, ho] at hop; injection hop with hop; exact hne hop.symm
     rw [this]; rfl
    ·obtain ⟨b', q1, q2, q3, q4⟩ := k.beg h1
     rw [hb] at q1; injection q1 with q1; subst q1
     simp only [oneTo]
     rw [if_pos, ← q2]
     refine ⟨q3, by rw [← q2]; omega, ?_⟩
     rw [← q2]
     unfold ownB
     rw [h4, hk.2.2.1, hk.2.2.2.1, decide_eq_true hk.1, decide_eq_true hk.2.1]; simp
theorem sp_okh {h : List Ev} : ∀ {n : Nat} {s : St}, n ≤ h.length → sp h n = some s → Okh h s n
 | 0, s, _, hs => by simp only [sp] at hs; injection hs with hs; subst hs; exact Okh.mt h
 | n + 1, s, hn, hs => by
  simp only [sp] at hs
  split at hs
  ·rename_i s0 e h1 h2
   refine (sp_okh (by omega) h1).step ?_
   rw [evA_get h2]; exact hs
  ·cases hs
theorem may_sp {h : List Ev} : ∀ {n : Nat}, n ≤ h.length → mayTo h n = (sp h n).isSome
 | 0, _ => rfl
 | n + 1, hn => by
  have ih := may_sp (h := h) (n := n) (by omega)
  simp only [mayTo, ih]
  cases hs : sp h n with
  | none => rw [sp_none hs (Nat.le_succ n)]; rfl
  | some s =>
   have k := sp_okh (by omega) hs
   rw [may_eq k, sp_get (by omega) hs, evA_lt (by omega)]
   simp only [Option.isSome_some, Bool.true_and]
   unfold stepS
   cases hb : mayB h[n] (curA s h[n].core) with
   | false => simp
   | true =>
    rw [if_pos rfl]
    split
    ·rfl
    ·split <;> rfl
theorem mayL_sp (h : List Ev) : mayL h = (sp h h.length).isSome := may_sp (Nat.le_refl _)
theorem splitL_ref {h : List Ev} {l : List At} (hl : splitL h = some l) : l = splitR h := by
 unfold splitL at hl
 cases hs : sp h h.length with
 | none => rw [hs] at hl; cases hl
 | some s =>
  rw [hs] at hl; injection hl with hl; subst hl
  exact (sp_okh (Nat.le_refl _) hs).outs
end Go.Hs
namespace Go.Clk
structure Sy where
 core : Int
 kind : Int
 addr : Int
deriving DecidableEq
def dfl : Sy := ⟨0, 0, 0⟩
def at' (l : List Sy) (i : Nat) : Sy := l.getD i dfl
def co (l : List Sy) (i : Nat) : Nat := (at' l i).core.toNat
def okS (x : Sy) : Prop := 0 ≤ x.core ∧ x.core < 4 ∧ 1 ≤ x.kind ∧ x.kind ≤ 4 ∧ 0 ≤ x.addr
instance (x : Sy) : Decidable (okS x) := by unfold okS; infer_instance
abbrev Ck := Nat → Int
def join (a b : Ck) : Ck := fun j => max (a j) (b j)
def inc (c : Ck) (p : Nat) : Ck := fun j => if j = p then c j + 1 else c j
structure St where
 cores : Nat → Ck
 objs : Int → Ck
def newC (s : St) (x : Sy) : Ck := if x.kind = 4 then join (inc (s.cores x.core.toNat) x.core.toNat) (s.objs x.addr) else inc (s.cores x.core.toNat) x.core.toNat
def stp (s : St) (x : Sy) : St :=
 { cores := fun p => if p = x.core.toNat then newC s x else s.cores p, objs := fun a => if x.kind = 3 ∧ a = x.addr then join (s.objs a) (newC s x) else s.objs a }
def st (l : List Sy) : Nat → St
 | 0 => ⟨fun _ _ => 0, fun _ _ => 0⟩
 | n + 1 => stp (st l n) (at' l n)
def clk (l : List Sy) (k : Nat) : Ck := newC (st l k) (at' l k)
def cnt (l : List Sy) (j : Nat) : Nat → Nat
 | 0 => 0
 | n + 1 => cnt l j n + if co l n = j then 1 else 0
def rank (l : List Sy) (i : Nat) : Nat := cnt l (co l i) i + 1
theorem cnt_mono (l : List Sy) (j : Nat) {a b : Nat} (h : a ≤ b) : cnt l j a ≤ cnt l j b := by
 induction b with
 | zero => have : a = 0 := by omega
           subst this; exact Nat.le_refl _
 | succ n ih =>
  by_cases e : a = n + 1
  ·subst e; exact Nat.le_refl _
  ·have := ih (by omega); simp only [cnt]; omega
theorem rank_le (l : List Sy) {i n : Nat} (h : i < n) : rank l i ≤ cnt l (co l i) n := by
 have := cnt_mono l (co l i) (show i + 1 ≤ n from h)
 simp only [cnt, if_true] at this
 unfold rank; omega
def D (l : List Sy) (i k : Nat) : Prop := i < k ∧ (co l i = co l k ∨ ((at' l i).kind = 3 ∧ (at' l k).kind = 4 ∧ (at' l i).addr = (at' l k).addr))
inductive HB (l : List Sy) : Nat → Nat → Prop
 | base {i k : Nat} (h : D l i k) : HB l i k
 | step {i j k : Nat} (h : HB l i j) (d : D l j k) : HB l i k
def HBE (l : List Sy) (i k : Nat) : Prop := i = k ∨ HB l i k
theorem HB.lt {l : List Sy} {i k : Nat} (h : HB l i k) : i < k := by
 induction h with
 | base h => exact h.1
 | step _ d ih => have := d.1; omega
theorem HB.trans {l : List Sy} {i j k : Nat} (h : HB l i j) (q : HB l j k) : HB l i k := by
 induction q with
 | base d => exact h.step d
 | step _ d ih => exact ih.step d
theorem HBE.le {l : List Sy} {i k : Nat} (h : HBE l i k) : i ≤ k := by
 rcases h with rfl | h
 ·exact Nat.le_refl _
 ·have := h.lt; omega
theorem HB.last {l : List Sy} {i k : Nat} : HB l i k ↔ ∃ m, HBE l i m ∧ D l m k := by
 constructor
 ·intro h
  cases h with
  | base d => exact ⟨i, .inl rfl, d⟩
  | step h d => exact ⟨_, .inr h, d⟩
 ·rintro ⟨m, rfl | h, d⟩
  ·exact .base d
  ·exact h.step d
structure Inv (l : List Sy) (n : Nat) : Prop where
 i1 : ∀ p i, i < n → ((rank l i : Int) ≤ (st l n).cores p (co l i) ↔ ∃ m, m < n ∧ co l m = p ∧ HBE l i m)
 i2 : ∀ a i, i < n → ((rank l i : Int) ≤ (st l n).objs a (co l i) ↔ ∃ m, m < n ∧ ((at' l m).kind = 3 ∧ (at' l m).addr = a) ∧ HBE l i m)
 c3 : ∀ p j, 0 ≤ (st l n).cores p j ∧ (st l n).cores p j ≤ cnt l j n
 o3 : ∀ a j, 0 ≤ (st l n).objs a j ∧ (st l n).objs a j ≤ cnt l j n
 i4 : ∀ p, (st l n).cores p p = cnt l p n
theorem Inv.newLe {l : List Sy} {n : Nat} (h : Inv l n) (j : Nat) : 0 ≤ clk l n j ∧ clk l n j ≤ cnt l j (n + 1) := by
 have h1 := h.c3 (co l n) j
 have h2 := h.o3 (at' l n).addr j
 have hi : 0 ≤ inc ((st l n).cores (co l n)) (co l n) j ∧ inc ((st l n).cores (co l n)) (co l n) j ≤ cnt l j (n + 1) := by
  simp only [inc, cnt]
  split
  ·rename_i e; subst e; simp; omega
  ·rename_i e; rw [if_neg (fun q => e q.symm)]; simp; omega
 have hm := cnt_mono l j (show n ≤ n + 1 by omega)
 show 0 ≤ newC (st l n) (at' l n) j ∧ newC (st l n) (at' l n) j ≤ cnt l j (n + 1)
 unfold newC
 change _ ∧ _
 split
 ·simp only [join]
  have e : (at' l n).core.toNat = co l n := rfl
  rw [e]; omega
 ·exact hi
theorem Inv.own {l : List Sy} {n : Nat} (h : Inv l n) : clk l n (co l n) = rank l n := by
 have h1 := h.i4 (co l n)
 have h2 := h.o3 (at' l n).addr (co l n)
 have e : (at' l n).core.toNat = co l n := rfl
 show newC (st l n) (at' l n) (co l n) = rank l n
 unfold newC rank
 rw [e]
 split
 ·simp only [join, inc, if_true]; omega
 ·simp only [inc, if_true]; omega
theorem Inv.tell {l : List Sy} {n : Nat} (h : Inv l n) {i : Nat} (hi : i < n) : (rank l i : Int) ≤ clk l n (co l i) ↔ HB l i n := by
 have h1 := h.i1 (co l n) i hi
 have h2 := h.i2 (at' l n).addr i hi
 have e : (at' l n).core.toNat = co l n := rfl
 have hinc : (rank l i : Int) ≤ inc ((st l n).cores (co l n)) (co l n) (co l i) ↔ (rank l i : Int) ≤ (st l n).cores (co l n) (co l i) := by
  simp only [inc]
  split
  ·rename_i q
   rw [q, h.i4]
   have := rank_le l hi
   rw [q] at this
   omega
  ·exact Iff.rfl
 show (rank l i : Int) ≤ newC (st l n) (at' l n) (co l i) ↔ _
 unfold newC
 rw [e, HB.last]
 split
 ·rename_i hk
  have : (rank l i : Int) ≤ join (inc ((st l n).cores (co l n)) (co l n)) ((st l n).objs (at' l n).addr) (co l i) ↔ (rank l i : Int) ≤ inc ((st l n).cores (co l n)) (co l n) (co l i) ∨ (rank l i : Int) ≤ (st l n).objs (at' l n).addr (co l i) := by
   simp only [join]; omega
  rw [this, hinc, h1, h2]
  constructor
  ·rintro (⟨m, q1, q2, q3⟩ | ⟨m, q1, ⟨q2, q3⟩, q4⟩)
   ·exact ⟨m, q3, q1, .inl q2⟩
   ·exact ⟨m, q4, q1, .inr ⟨q2, hk, q3⟩⟩
  ·rintro ⟨m, q1, q2, q3 | ⟨q3, _, q4⟩⟩
   ·exact .inl ⟨m, q2, q3, q1⟩
   ·exact .inr ⟨m, q2, ⟨q3, q4⟩, q1⟩
 ·rename_i hk
  rw [hinc, h1]
  constructor
  ·rintro ⟨m, q1, q2, q3⟩
   exact ⟨m, q3, q1, .inl q2⟩
  ·rintro ⟨m, q1, q2, q3 | ⟨_, q4, _⟩⟩
   ·exact ⟨m, q2, q3, q1⟩
   ·exact absurd q4 hk
theorem inv (l : List Sy) : ∀ n, Inv l n
 | 0 => ⟨fun _ i h => by omega, fun _ i h => by omega, fun p j => by simp [st, cnt], fun p j => by simp [st, cnt], fun p => by simp [st, cnt]⟩
 | n + 1 => by
  have h := inv l n
  have e : (at' l n).core.toNat = co l n := rfl
  have ec : ∀ p, (st l (n + 1)).cores p = if p = co l n then clk l n else (st l n).cores p := fun p => rfl
  have eo : ∀ a, (st l (n + 1)).objs a = if (at' l n).kind = 3 ∧ a = (at' l n).addr then join ((st l n).objs a) (clk l n) else (st l n).objs a := fun a => rfl
  have hself : (rank l n : Int) ≤ clk l n (co l n) := by rw [h.own]; exact Int.le_refl _
  have no : ∀ m, m < n → ¬ HBE l n m := fun m hm q => by have := q.le; omega
  constructor
  ·intro p i hi
   rw [ec]
   split
   ·rename_i hp
    subst hp
    by_cases hin : i = n
    ·subst hin
     exact ⟨fun _ => ⟨i, by omega, rfl, .inl rfl⟩, fun _ => hself⟩
    ·rw [h.tell (by omega)]
     constructor
     ·intro q; exact ⟨n, by omega, rfl, .inr q⟩
     ·rintro ⟨m, q1, q2, q3⟩
      by_cases hm : m = n
      ·subst hm; exact q3.resolve_left hin
      ·exact HB.last.2 ⟨m, q3, by omega, .inl q2⟩
   ·rename_i hp
    by_cases hin : i = n
    ·subst hin
     have := (h.c3 p (co l i)).2
     constructor
     ·intro q; unfold rank at q; omega
     ·rintro ⟨m, q1, q2, q3⟩
      by_cases hm : m = i
      ·subst hm; exact absurd q2.symm hp
      ·exact absurd q3 (no m (by omega))
    ·rw [h.i1 p i (by omega)]
     constructor
     ·rintro ⟨m, q1, q2⟩; exact ⟨m, by omega, q2⟩
     ·rintro ⟨m, q1, q2, q3⟩
      by_cases hm : m = n
      ·subst hm; exact absurd q2.symm hp
      ·exact ⟨m, by omega, q2, q3⟩
  ·intro a i hi
   rw [eo]
   split
   ·rename_i hp
    have : (rank l i : Int) ≤ join ((st l n).objs a) (clk l n) (co l i) ↔ (rank l i : Int) ≤ (st l n).objs a (co l i) ∨ (rank l i : Int) ≤ clk l n (co l i) := by
     simp only [join]; omega
    rw [this]
    by_cases hin : i = n
    ·subst hin
     exact ⟨fun _ => ⟨i, by omega, ⟨hp.1, hp.2.symm⟩, .inl rfl⟩, fun _ => .inr hself⟩
    ·rw [h.i2 a i (by omega), h.tell (by omega)]
     constructor
     ·rintro (⟨m, q1, q2⟩ | q)
      ·exact ⟨m, by omega, q2⟩
      ·exact ⟨n, by omega, ⟨hp.1, hp.2.symm⟩, .inr q⟩
     ·rintro ⟨m, q1, q2, q3⟩
      by_cases hm : m = n
      ·subst hm; exact .inr (q3.resolve_left hin)
      ·exact .inl ⟨m, by omega, q2, q3⟩
   ·rename_i hp
    by_cases hin : i = n
    ·subst hin
     have := (h.o3 a (co l i)).2
     constructor
     ·intro q; unfold rank at q; omega
     ·rintro ⟨m, q1, q2, q3⟩
      by_cases hm : m = i
      ·subst hm; exact absurd ⟨q2.1, q2.2.symm⟩ hp
      ·exact absurd q3 (no m (by omega))
    ·rw [h.i2 a i (by omega)]
     constructor
     ·rintro ⟨m, q1, q2⟩; exact ⟨m, by omega, q2⟩
     ·rintro ⟨m, q1, q2, q3⟩
      by_cases hm : m = n
      ·subst hm; exact absurd ⟨q2.1, q2.2.symm⟩ hp
      ·exact ⟨m, by omega, q2, q3⟩
  ·intro p j
   rw [ec]
   split
   ·exact h.newLe j
   ·have := h.c3 p j
    have hm := cnt_mono l j (show n ≤ n + 1 by omega)
    omega
  ·intro a j
   have h1 := h.o3 a j
   have h2 := h.newLe j
   have hm := cnt_mono l j (show n ≤ n + 1 by omega)
   rw [eo]
   split
   ·simp only [join]; omega
   ·omega
  ·intro p
   rw [ec]
   split
   ·rename_i hp; subst hp
    rw [h.own]; simp only [cnt, if_true, rank]
   ·rename_i hp
    rw [h.i4]; simp only [cnt]; rw [if_neg (fun q => hp q.symm)]; simp
theorem tell (l : List Sy) {i k : Nat} (h : i < k) : (rank l i : Int) ≤ clk l k (co l i) ↔ HB l i k := (inv l k).tell h
def skip (n i : Nat) : Nat := if i < n then i else i + 1
end Go.Clk
namespace Go.Hs
open Go.Clk (Sy)
end Go.Hs
namespace Go.Hs
end Go.Hs
namespace Go.Hs
def mGet : List Pr → Int → Option Int
 | [], _ => none
 | (q, v) :: l, a => if a = q then some v else mGet l a
def mPut : List Pr → Int → Int → List Pr
 | [], a, v => [(a, v)]
 | (q, u) :: l, a, v => if a = q then (a, v) :: l else (q, u) :: mPut l a v
def memF (m : List Pr) (a : Int) : Int := (mGet m a).getD 0
theorem mGet_put : ∀ (m : List Pr) (a v b : Int), mGet (mPut m a v) b = if b = a then some v else mGet m b
 | [], a, v, b => by simp [mPut, mGet]
 | (q, u) :: m, a, v, b => by
  simp only [mPut]
  split
  ·rename_i e
   subst e
   simp only [mGet]
   by_cases hb : b = a
   ·rw [if_pos hb, if_pos hb]
   ·rw [if_neg hb, if_neg hb, if_neg hb]
  ·rename_i e
   simp only [mGet, mGet_put m a v b]
   by_cases h : b = q
   ·subst h
    rw [if_pos rfl, if_neg (fun h => e h.symm), if_pos rfl]
   ·rw [if_neg h, if_neg h]
theorem memF_put (m : List Pr) (a v b : Int) : memF (mPut m a v) b = if b = a then v else memF m b := by
 unfold memF; rw [mGet_put]; split <;> rfl
def begTo (first : List Int) : Nat → List Pr
 | 0 => []
 | n + 1 => mPut (begTo first n) n (first.getD n 0)
def begL (first : List Int) : List Pr := begTo first first.length
def firF (first : List Int) (a : Int) : Int := if 0 ≤ a ∧ a < first.length then first.getD a.toNat 0 else 0
theorem begTo_F (first : List Int) : ∀ n, n ≤ first.length → ∀ a, memF (begTo first n) a = if 0 ≤ a ∧ a < n then first.getD a.toNat 0 else 0
 | 0, _, a => by
  rw [if_neg (by omega)]; rfl
 | n + 1, hn, a => by
  simp only [begTo]
  rw [memF_put, begTo_F first n (by omega) a]
  by_cases h : a = n
  ·subst h; rw [if_pos rfl, if_pos (by omega), Int.toNat_natCast]
  ·rw [if_neg h]
   by_cases h2 : 0 ≤ a ∧ a < n
   ·rw [if_pos h2, if_pos (by omega)]
   ·rw [if_neg h2, if_neg (by omega)]
theorem begL_F (first : List Int) (a : Int) : memF (begL first) a = firF first a := begTo_F first first.length (Nat.le_refl _) a
def putAll (m : List Pr) (l : List Pr) : List Pr := l.foldl (fun m p => mPut m p.1 p.2) m
theorem putAll_snoc (m l : List Pr) (p : Pr) : putAll m (l ++ [p]) = mPut (putAll m l) p.1 p.2 := by unfold putAll; rw [List.foldl_append]; rfl
def ptAt (l : List At) (n : Nat) : Option At := l.reverse.find? fun x => x.point == (n : Int)
def explB (m : List Pr) (e : Ev) : Option At → Bool
 | none => !(e.kind == 7) || memF m e.addr == e.value
 | some x => !x.odd && x.loads.all fun p => memF m p.1 == p.2
def goesM (m : List Pr) (e : Ev) : Option At → List Pr
 | none => if e.kind = 8 then mPut m e.addr e.value else m
 | some x => if x.com then putAll m x.stores else m
def hapB (h : List Ev) (l : List At) (n : Nat) : Bool := (ptAt l n).isSome || plainB (evA h n)
def memTo (h : List Ev) (l : List At) (m : List Pr) : Nat → List Pr
 | 0 => m
 | n + 1 => if hapB h l n then goesM (memTo h l m n) (evA h n) (ptAt l n) else memTo h l m n
def badAt (h : List Ev) (l : List At) (m : List Pr) (n : Nat) : Bool := hapB h l n && !explB (memTo h l m n) (evA h n) (ptAt l n)
end Go.Hs
namespace Go.Hs
theorem hear_pt (x : At) (n : Int) (e : Ev) : (hearA x n e).point = x.point ∨ ((hearA x n e).point = n ∧ (e.kind = 2 ∨ e.kind = 4 ∨ e.kind = 5)) := by
 unfold hearA loadA
 repeat' split
 all_goals first | exact .inl rfl | (right; exact ⟨rfl, by omega⟩)
theorem putS_keys {l : List Pr} {a v : Int} (h : (l.map (·.1)).Nodup) : ((putS l a v).map (·.1)).Nodup := by
 unfold putS
 split
 ·rename_i i hf
  obtain ⟨h1, h2, _⟩ := findN_some hf
  rw [List.map_set]
  have : (l.map (·.1)).set i a = l.map (·.1) := by
   apply List.ext_getElem?
   intro j
   rw [List.getElem?_set]
   by_cases e : i = j
   ·subst e
    rw [if_pos rfl, if_pos (by simpa using h1), List.getElem?_map, List.getElem?_eq_getElem h1]
    rw [List.getD_eq_getElem?_getD, List.getElem?_eq_getElem h1] at h2
    simp only [Option.getD_some] at h2
    simp [h2]
   ·rw [if_neg e]
  rw [this]; exact h
 ·rename_i hf
  rw [List.map_append, List.nodup_append]
  refine ⟨h, by simp, fun q hq r hr => ?_⟩
  simp only [List.map_cons, List.map_nil, List.mem_singleton] at hr
  subst hr
  obtain ⟨p, hp, rfl⟩ := List.mem_map.1 hq
  exact findN_none hf p hp
theorem hear_st {x : At} {n : Int} {e : Ev} (h : (x.stores.map (·.1)).Nodup) : ((hearA x n e).stores.map (·.1)).Nodup := by
 unfold hearA loadA
 repeat' split
 all_goals first | exact h | exact putS_keys h
theorem hear_ld {x : At} {n : Int} {e : Ev} (h : ∀ p ∈ x.loads, 0 ≤ p.1) (he : e.kind = 2 → 0 ≤ e.addr) : ∀ p ∈ (hearA x n e).loads, 0 ≤ p.1 := by
 unfold hearA loadA
 repeat' split
 all_goals first
  | exact h
  | (intro p hp
     rcases List.mem_append.1 hp with h1 | h1
     · exact h p h1
     · simp only [List.mem_singleton] at h1
       subst h1
       exact he ‹_›)
theorem hear_odd {x : At} {n : Int} {e : Ev} (h : x.odd = true → x.loads ≠ []) : (hearA x n e).odd = true → (hearA x n e).loads ≠ [] := by
 unfold hearA loadA
 repeat' split
 all_goals first
  | exact h
  | (rename_i hf
     intro _ hn
     have := (findN_some hf).1
     simp only at hn
     rw [hn] at this
     simp at this)
  | (intro _; simp)
  | skip
structure AtOk (h : List Ev) (n : Nat) (x : At) : Prop where
 pt : ∀ k : Nat, x.point = k → k < n ∧ ((evA h k).kind = 2 ∨ (evA h k).kind = 4 ∨ (evA h k).kind = 5)
 st : (x.stores.map (·.1)).Nodup
 ld : ∀ p ∈ x.loads, 0 ≤ p.1
 odd : x.odd = true → x.loads ≠ []
theorem AtOk.mono {h : List Ev} {n : Nat} {x : At} (k : AtOk h n x) : AtOk h (n + 1) x := ⟨fun m hm => ⟨by have := (k.pt m hm).1; omega, (k.pt m hm).2⟩, k.st, k.ld, k.odd⟩
theorem AtOk.hear {h : List Ev} {n : Nat} {x : At} (k : AtOk h n x) (he : (evA h n).kind = 2 → 0 ≤ (evA h n).addr) : AtOk h (n + 1) (hearA x n (evA h n)) := by
 refine ⟨fun m hm => ?_, hear_st k.st, hear_ld k.ld he, hear_odd k.odd⟩
 rcases hear_pt x n (evA h n) with h1 | ⟨h1, h2⟩
 ·rw [h1] at hm
  exact (k.mono).pt m hm
 ·rw [h1] at hm
  have : m = n := by omega
  subst this
  exact ⟨by omega, h2⟩
theorem may_addr {e : Ev} {x : Option At} (hm : mayB e x = true) (hw : wordB e = true) : 0 ≤ e.addr := by
 unfold mayB at hm
 split at hm
 ·cases hm
 ·rename_i g
  have : ¬ e.addr < 0 := fun hh => g (.inr (.inr (.inr (.inr ⟨hw, hh⟩))))
  omega
theorem sp_ats {h : List Ev} : ∀ {n : Nat} {s : St}, sp h n = some s → (∀ x ∈ s.out, AtOk h n x) ∧ ∀ (i j : Nat) (x y : At) (k : Nat), s.out[i]? = some x → s.out[j]? = some y → x.point = k → y.point = k → i = j
 | 0, s, hs => by simp only [sp] at hs; injection hs with hs; subst hs; simp
 | n + 1, s, hs => by
  simp only [sp] at hs
  split at hs
  ·rename_i s0 e h1 h2
   obtain ⟨ih, iu⟩ := sp_ats h1
   have ok := sp_ok h1
   have he : evA h n = e := evA_get h2
   unfold stepS at hs
   split at hs
   case isFalse => cases hs
   rename_i hm
   split at hs
   ·injection hs with hs; subst hs
    exact ⟨fun x hx => (ih x hx).mono, iu⟩
   ·cases ho : opGet s0.op e.core with
    | none =>
     rw [ho] at hs; simp only at hs; injection hs with hs; subst hs
     refine ⟨fun x hx => ?_, fun i j x y k hi hj hx hy => ?_⟩
     ·rcases List.mem_append.1 hx with h3 | h3
      ·exact (ih x h3).mono
      ·simp only [List.mem_singleton] at h3; subst h3
       exact ⟨fun m hm => by simp only [newA] at hm; omega, by simp [newA], by simp [newA], by simp [newA]⟩
     ·have nw : ∀ {i : Nat} {x : At}, (s0.out ++ [newA e n])[i]? = some x → x.point = k → s0.out[i]? = some x := fun {i} {x} hi hx => by
       by_cases hl : i < s0.out.length
       ·rw [List.getElem?_append_left hl] at hi; exact hi
       ·rw [List.getElem?_append_right (by omega)] at hi
        have hm := List.mem_of_getElem? hi
        simp only [List.mem_singleton] at hm
        subst hm
        simp only [newA] at hx
        omega
      exact iu i j x y k (nw hi hx) (nw hj hy) hx hy
    | some q =>
     rw [ho] at hs; simp only at hs; injection hs with hs; subst hs
     obtain ⟨y, y1, y2, y3, y4, y5, y6⟩ := ok.cur ho
     rw [y2]
     have hadr : (evA h n).kind = 2 → 0 ≤ (evA h n).addr := fun hk => by
      rw [he] at hk ⊢
      exact may_addr hm (by unfold wordB; rw [hk]; rfl)
     have hy := ih y (List.mem_of_getElem? y1)
     have hh := hy.hear hadr
     rw [he] at hh
     refine ⟨fun x hx => ?_, fun i j x z k hi hj hx hz => ?_⟩
     ·rcases List.mem_or_eq_of_mem_set hx with h3 | rfl
      ·exact (ih x h3).mono
      ·exact hh
     ·have key : ∀ {i : Nat} {x : At}, (s0.out.set q (hearA y n e))[i]? = some x → x.point = k → (i ≠ q ∧ s0.out[i]? = some x) ∨ (i = q ∧ (k = n ∨ y.point = k)) := fun {i} {x} hi hx => by
       rw [List.getElem?_set] at hi
       by_cases e1 : q = i
       ·subst e1
        rw [if_pos rfl, if_pos y6] at hi
        injection hi with hi
        subst hi
        right
        refine ⟨rfl, ?_⟩
        rcases hear_pt y n e with h3 | ⟨h3, _⟩
        ·right; rw [← h3]; exact hx
        ·left; rw [h3] at hx; omega
       ·rw [if_neg e1] at hi
        exact .inl ⟨fun e2 => e1 e2.symm, hi⟩
      have old : ∀ {i : Nat} {x : At}, s0.out[i]? = some x → x.point = k → k < n := fun {i} {x} hi hx => ((ih x (List.mem_of_getElem? hi)).pt k hx).1
      rcases key hi hx with ⟨a1, a2⟩ | ⟨a1, a2⟩ <;> rcases key hj hz with ⟨b1, b2⟩ | ⟨b1, b2⟩
      ·exact iu i j x z k a2 b2 hx hz
      ·exfalso
       have := old a2 hx
       rcases b2 with b2 | b2
       ·omega
       ·exact a1 (iu i q x y k a2 y1 hx b2)
      ·exfalso
       have := old b2 hz
       rcases a2 with a2 | a2
       ·omega
       ·exact b1 (iu j q z y k b2 y1 hz a2)
      ·omega
  ·cases hs
def putW (x : At) (a : Int) (k : Nat) (v : Int) : Int := if x.point = k ∧ x.com = true ∧ findI x.stores a ≥ 0 then (x.stores.getD (findI x.stores a).toNat (0, 0)).2 else v
def wrW (h : List Ev) (a : Int) (k : Nat) (v : Int) : Int := if (evA h k).kind = 8 ∧ (evA h k).addr = a then (evA h k).value else v
def wS (h : List Ev) (l : List At) (a : Int) (k : Nat) (v : Int) : Int := l.foldl (fun v x => putW x a k v) (wrW h a k v)
def wordTo (h : List Ev) (l : List At) (first : List Int) (a : Int) : Nat → Int
 | 0 => firF first a
 | k + 1 => wS h l a k (wordTo h l first a k)
def badX (h : List Ev) (l : List At) (first : List Int) (n : Nat) (x : At) : Bool := x.point == (n : Int) && x.loads.any fun p => x.odd || wordTo h l first p.1 n != p.2
def badE (h : List Ev) (l : List At) (first : List Int) (n : Nat) : Bool := ((evA h n).kind == 7 && wordTo h l first (evA h n).addr n != (evA h n).value) || l.any (badX h l first n)
theorem memF_all : ∀ (l : List Pr) (m : List Pr) (a : Int), (l.map (·.1)).Nodup → memF (putAll m l) a = match findN l a with | some j => (l.getD j (0, 0)).2 | none => memF m a
 | [], m, a, _ => rfl
 | p :: l, m, a, h => by
  simp only [List.map_cons, List.nodup_cons] at h
  have ih := memF_all l (mPut m p.1 p.2) a h.2
  show memF (putAll (mPut m p.1 p.2) l) a = _
  rw [ih]
  simp only [findN]
  by_cases e : p.1 = a
  ·subst e
   rw [if_pos rfl]
   have hn : findN l p.1 = none := by
    cases hf : findN l p.1 with
    | none => rfl
    | some j =>
     obtain ⟨h1, h2, _⟩ := findN_some hf
     exact absurd (by rw [← h2, List.getD_eq_getElem?_getD, List.getElem?_eq_getElem h1]; exact List.mem_map_of_mem (f := fun p : Pr => p.1) (List.getElem_mem h1)) h.1
   rw [hn]
   simp only
   rw [memF_put, if_pos rfl]; rfl
  ·rw [if_neg e]
   cases hf : findN l a with
   | none =>
    simp only [Option.map_none]
    rw [memF_put, if_neg (fun h => e h.symm)]
   | some j => rfl
theorem putW_no {x : At} {a : Int} {k : Nat} {v : Int} (h : x.point ≠ k) : putW x a k v = v := by unfold putW; rw [if_neg fun hh => h hh.1]
theorem fold_no {a : Int} {k : Nat} : ∀ {l : List At} {v : Int}, (∀ x ∈ l, x.point ≠ k) → l.foldl (fun v x => putW x a k v) v = v
 | [], v, _ => rfl
 | x :: l, v, h => by
  rw [List.foldl_cons, putW_no (h x (by simp))]
  exact fold_no fun y hy => h y (by simp [hy])
def One (l : List At) (k : Nat) : Prop := ∀ (i j : Nat) (x y : At), l[i]? = some x → l[j]? = some y → x.point = k → y.point = k → i = j
theorem one_split {l : List At} {k : Nat} (h : One l k) {x : At} (hx : x ∈ l) (hp : x.point = k) : ∃ l1 l2, l = l1 ++ x :: l2 ∧ (∀ y ∈ l1, y.point ≠ k) ∧ ∀ y ∈ l2, y.point ≠ k := by
 obtain ⟨l1, l2, rfl⟩ := List.append_of_mem hx
 have hi : (l1 ++ x :: l2)[l1.length]? = some x := by simp
 refine ⟨l1, l2, rfl, fun y hy e => ?_, fun y hy e => ?_⟩
 ·obtain ⟨j, hj⟩ := List.getElem?_of_mem hy
  have hl := (List.getElem?_eq_some_iff.1 hj).1
  have := h j l1.length y x (by rw [List.getElem?_append_left hl]; exact hj) hi e hp
  omega
 ·obtain ⟨j, hj⟩ := List.getElem?_of_mem hy
  have := h (l1.length + 1 + j) l1.length y x (by rw [List.getElem?_append_right (by omega), show l1.length + 1 + j - l1.length = j + 1 by omega]; exact hj) hi e hp
  omega
theorem ptAt_some {l : List At} {k : Nat} {x : At} (h : ptAt l k = some x) : x ∈ l ∧ x.point = k := by
 unfold ptAt at h
 have h1 := List.mem_of_find?_eq_some h
 have h2 := List.find?_some h
 exact ⟨by simpa using h1, by simpa using h2⟩
theorem ptAt_none {l : List At} {k : Nat} (h : ptAt l k = none) : ∀ x ∈ l, x.point ≠ k := fun x hx e => by
 unfold ptAt at h
 have := List.find?_eq_none.1 h x (by simpa using hx)
 simp [e] at this
theorem fold_one {l : List At} {k : Nat} (h : One l k) {x : At} (hx : ptAt l k = some x) (a v : Int) : l.foldl (fun v x => putW x a k v) v = putW x a k v := by
 obtain ⟨h1, h2⟩ := ptAt_some hx
 obtain ⟨l1, l2, rfl, h3, h4⟩ := one_split h h1 h2
 rw [List.foldl_append, fold_no h3, List.foldl_cons, fold_no h4]
structure AtsOk (h : List Ev) (l : List At) : Prop where
 ok : ∀ x ∈ l, AtOk h h.length x
 one : ∀ k, One l k
theorem ats_of {h : List Ev} {l : List At} (hs : splitL h = some l) : AtsOk h l := by
 unfold splitL at hs
 cases hq : sp h h.length with
 | none => rw [hq] at hs; cases hs
 | some s =>
  rw [hq] at hs; injection hs with hs; subst hs
  exact ⟨(sp_ats hq).1, fun k i j x y a b c d => (sp_ats hq).2 i j x y k a b c d⟩
theorem word_mem {h : List Ev} {l : List At} (ok : AtsOk h l) (first : List Int) (a : Int) : ∀ n, wordTo h l first a n = memF (memTo h l (begL first) n) a
 | 0 => (begL_F first a).symm
 | n + 1 => by
  have ih := word_mem ok first a n
  simp only [wordTo, wS, memTo]
  rw [ih]
  generalize memTo h l (begL first) n = m
  cases hp : ptAt l n with
  | none =>
   rw [fold_no (ptAt_none hp)]
   unfold hapB wrW
   rw [hp]
   simp only [Option.isSome_none, Bool.false_or, goesM]
   by_cases h8 : (evA h n).kind = 8
   ·have hpb : plainB (evA h n) = true := by unfold plainB; rw [h8]; rfl
    simp only [hpb, if_true, if_pos h8, memF_put]
    by_cases e : (evA h n).addr = a
    ·rw [if_pos ⟨h8, e⟩, if_pos e.symm]
    ·rw [if_neg fun hh => e hh.2, if_neg fun hh => e hh.symm]
   ·rw [if_neg fun hh => h8 hh.1]
    simp only [if_neg h8]
    split <;> rfl
  | some x =>
   obtain ⟨h1, h2⟩ := ptAt_some hp
   have hk := ((ok.ok x h1).pt n h2).2
   rw [fold_one (ok.one n) hp]
   unfold hapB wrW
   rw [hp, if_neg (by omega)]
   simp only [Option.isSome_some, Bool.true_or, if_true, goesM]
   unfold putW findI
   cases hc : x.com with
   | false => rw [if_neg (by simp)]; rfl
   | true =>
    rw [if_pos rfl, memF_all _ _ _ (ok.ok x h1).st]
    cases hf : findN x.stores a with
    | none => rw [if_neg (by simp)]
    | some j => rw [if_pos ⟨h2, rfl, by simp⟩]; simp
theorem bad_eq {h : List Ev} {l : List At} (ok : AtsOk h l) (first : List Int) (n : Nat) : badE h l first n = badAt h l (begL first) n := by
 unfold badE badAt hapB
 cases hp : ptAt l n with
 | none =>
  have hx : l.any (badX h l first n) = false := by
   rw [List.any_eq_false]
   intro x hx
   have := ptAt_none hp x hx
   unfold badX
   have : (x.point == (n : Int)) = false := by simpa using this
   rw [this]; simp
  rw [hx, Bool.or_false, word_mem ok]
  simp only [Option.isSome_none, Bool.false_or, explB]
  generalize memF (memTo h l (begL first) n) (evA h n).addr = m
  unfold plainB
  by_cases h7 : (evA h n).kind = 7
  ·rw [h7]; simp [bne]
  ·have : ((evA h n).kind == 7) = false := by simpa using h7
   rw [this]; simp
 | some x =>
  obtain ⟨h1, h2⟩ := ptAt_some hp
  have hx := ok.ok x h1
  have hk := (hx.pt n h2).2
  have h7 : ((evA h n).kind == 7) = false := by simp; omega
  rw [h7]
  simp only [Bool.false_and, Bool.false_or, Option.isSome_some, Bool.true_or, Bool.true_and, explB]
  obtain ⟨l1, l2, hl, h3, h4⟩ := one_split (ok.one n) h1 h2
  have nob : ∀ y : At, y.point ≠ n → badX h l first n y = false := fun y hy => by
   unfold badX
   have : (y.point == (n : Int)) = false := by simpa using hy
   rw [this]; simp
  have ha : l.any (badX h l first n) = badX h l first n x := by
   conv => lhs; arg 1; rw [hl]
   rw [List.any_append, List.any_cons, List.any_eq_false.2 fun y hy => by rw [nob y (h3 y hy)]; simp, List.any_eq_false.2 fun y hy => by rw [nob y (h4 y hy)]; simp]
   simp
  rw [ha]
  unfold badX
  rw [h2, beq_self_eq_true, Bool.true_and]
  cases ho : x.odd with
  | true =>
   have := hx.odd ho
   cases hld : x.loads with
   | nil => exact absurd hld this
   | cons p q => simp
  | false =>
   simp only [Bool.false_or, Bool.not_false, Bool.true_and, List.not_all_eq_any_not]
   refine List.any_congr rfl fun p => ?_
   rw [word_mem ok]; rfl
end Go.Hs
