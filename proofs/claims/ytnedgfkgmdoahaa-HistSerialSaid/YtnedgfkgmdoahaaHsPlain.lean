/- The plain law of histories (1): events, attempts, and how a history is split into them. No program in sight. -/
set_option linter.unusedSimpArgs false
set_option linter.unusedVariables false
set_option linter.unnecessarySimpa false
namespace Go.Hs
structure Ev where
 kind : Int
 time : Int
 core : Int
 block : Int
 tr : Int
 lane : Int
 addr : Int
 value : Int
 code : Int
deriving DecidableEq, Inhabited
abbrev Pr := Int × Int
structure At where
 core : Int
 block : Int
 tr : Int
 lane : Int
 frm : Int
 point : Int
 to : Int
 loads : List Pr
 stores : List Pr
 com : Bool
 code : Int
 odd : Bool
 touched : List Int
deriving Inhabited
def findN : List Pr → Int → Option Nat
 | [], _ => none
 | p :: l, a => if p.1 = a then some 0 else (findN l a).map (· + 1)
def findI (l : List Pr) (a : Int) : Int := match findN l a with | some i => i | none => -1
theorem findN_some : ∀ {l : List Pr} {a : Int} {i : Nat}, findN l a = some i → i < l.length ∧ (l.getD i (0, 0)).1 = a ∧ ∀ j, j < i → (l.getD j (0, 0)).1 ≠ a
 | [], _, _, h => by cases h
 | p :: l, a, i, h => by
  simp only [findN] at h
  split at h
  ·rename_i e; injection h with h; subst h; exact ⟨by simp, by simpa using e, fun j hj => by omega⟩
  ·rename_i e
   cases hf : findN l a with
   | none => rw [hf] at h; cases h
   | some k =>
    rw [hf] at h; injection h with h; subst h
    obtain ⟨h1, h2, h3⟩ := findN_some hf
    refine ⟨by simpa using h1, by simpa using h2, fun j hj => ?_⟩
    cases j with
    | zero => simpa using e
    | succ j => simpa using h3 j (by have hj : j + 1 < k + 1 := hj; omega)
theorem findN_none : ∀ {l : List Pr} {a : Int}, findN l a = none → ∀ p ∈ l, p.1 ≠ a
 | [], _, _, p, hp => by simp at hp
 | q :: l, a, h, p, hp => by
  simp only [findN] at h
  split at h
  ·cases h
  ·rename_i e
   have h' : findN l a = none := by
    cases hf : findN l a with
    | none => rfl
    | some k => rw [hf] at h; cases h
   rcases List.mem_cons.1 hp with rfl | hp
   ·exact e
   ·exact findN_none h' p hp
theorem findN_at {l : List Pr} {a : Int} {i : Nat} (hi : i < l.length) (h1 : (l.getD i (0, 0)).1 = a) (h2 : ∀ j, j < i → (l.getD j (0, 0)).1 ≠ a) : findN l a = some i := by
 cases hf : findN l a with
 | none =>
  refine absurd h1 (findN_none hf _ ?_)
  rw [List.getD_eq_getElem?_getD, List.getElem?_eq_getElem hi]; exact List.getElem_mem hi
 | some k =>
  obtain ⟨k1, k2, k3⟩ := findN_some hf
  rcases Nat.lt_trichotomy i k with h | h | h
  ·exact absurd h1 (k3 i h)
  ·rw [h]
  ·exact absurd k2 (h2 k h)
theorem findI_nn (l : List Pr) (a : Int) : decide (findI l a ≥ 0) = (findN l a).isSome := by
 unfold findI
 cases findN l a with
 | none => rfl
 | some i => simp
def hardB (x : At) : Bool := x.lane == 1 || x.lane == 2
def tch (l : List Int) (a : Int) : List Int := if a ∈ l then l else l ++ [a]
def loadA (x : At) (e : Ev) : At :=
 match findN x.stores e.addr with
 | some _ => { x with touched := tch x.touched e.addr }
 | none => match findN x.loads e.addr with
  | some i => { x with touched := tch x.touched e.addr, odd := x.odd || !((x.loads.getD i (0, 0)).2 == e.value) }
  | none => { x with touched := tch x.touched e.addr, loads := x.loads ++ [(e.addr, e.value)] }
def putS (l : List Pr) (a v : Int) : List Pr := match findN l a with
 | some i => l.set i (a, v)
 | none => l ++ [(a, v)]
def hearA (x : At) (n : Int) (e : Ev) : At :=
 if e.kind = 2 then (if hardB x then { loadA x e with point := n } else loadA x e)
 else if e.kind = 3 then { x with touched := tch x.touched e.addr, stores := putS x.stores e.addr e.value }
 else if e.kind = 4 then (if hardB x then x else { x with point := n })
 else if e.kind = 5 then (if hardB x then { x with to := n, com := true, point := n } else { x with to := n, com := true })
 else if e.kind = 6 then { x with to := n, code := e.code } else x
def plainB (e : Ev) : Bool := e.kind == 7 || e.kind == 8
def wordB (e : Ev) : Bool := e.kind == 2 || (e.kind == 3 || plainB e)
def mayB (e : Ev) (x : Option At) : Bool :=
 if e.kind < 1 ∨ e.kind > 8 ∨ e.core < 0 ∨ e.core ≥ 4 ∨ (wordB e = true ∧ e.addr < 0) then false
 else if e.kind = 1 then x.isNone && (decide (e.lane ≥ 1) && (decide (e.lane ≤ 4) && (decide (e.block ≥ 0) && decide (e.tr ≥ 0))))
 else if plainB e then x.isNone
 else match x with
  | none => false
  | some x => x.block == e.block && (x.tr == e.tr && (!(e.kind == 6) || (decide (e.code ≥ 1) && decide (e.code ≤ 8))))
structure St where
 out : List At
 op : List (Int × Nat)
def opGet : List (Int × Nat) → Int → Option Nat
 | [], _ => none
 | (q, v) :: l, w => if w = q then some v else opGet l w
def opDel : List (Int × Nat) → Int → List (Int × Nat)
 | [], _ => []
 | (q, v) :: l, w => if w = q then l else (q, v) :: opDel l w
theorem opGet_mem : ∀ {l : List (Int × Nat)} {c : Int} {i : Nat}, opGet l c = some i → (c, i) ∈ l
 | [], _, _, h => by cases h
 | (q, v) :: l, c, i, h => by
  simp only [opGet] at h
  split at h
  ·rename_i e; injection h with h; subst h; subst e; simp
  ·exact List.mem_cons_of_mem _ (opGet_mem h)
theorem opGet_none : ∀ {l : List (Int × Nat)} {c : Int}, opGet l c = none → ∀ p ∈ l, p.1 ≠ c
 | [], _, _, p, hp => by simp at hp
 | (q, v) :: l, c, h, p, hp => by
  simp only [opGet] at h
  split at h
  ·cases h
  ·rename_i e
   rcases List.mem_cons.1 hp with rfl | hp
   ·exact fun e' => e e'.symm
   ·exact opGet_none h p hp
theorem opGet_of : ∀ {l : List (Int × Nat)} {c : Int} {i : Nat}, (l.map (·.1)).Nodup → (c, i) ∈ l → opGet l c = some i
 | (q, v) :: l, c, i, hn, hm => by
  simp only [List.map_cons, List.nodup_cons] at hn
  simp only [opGet]
  rcases List.mem_cons.1 hm with e | hm
  ·injection e with e1 e2; subst e1; subst e2; rw [if_pos rfl]
  ·rw [if_neg (fun e => hn.1 (by rw [← e]; exact List.mem_map.2 ⟨_, hm, rfl⟩))]
   exact opGet_of hn.2 hm
theorem opDel_mem : ∀ {l : List (Int × Nat)} {c : Int}, (l.map (·.1)).Nodup → ∀ p, p ∈ opDel l c ↔ p ∈ l ∧ p.1 ≠ c
 | [], _, _, p => by simp [opDel]
 | (q, v) :: l, c, hn, p => by
  simp only [List.map_cons, List.nodup_cons] at hn
  simp only [opDel]
  split
  ·rename_i e
   subst e
   rw [List.mem_cons]
   constructor
   ·exact fun h => ⟨.inr h, fun e => hn.1 (by rw [← e]; exact List.mem_map_of_mem (f := (·.1)) h)⟩
   ·rintro ⟨rfl | h, h2⟩
    ·exact absurd rfl h2
    ·exact h
  ·rename_i e
   rw [List.mem_cons, List.mem_cons, opDel_mem hn.2]
   constructor
   ·rintro (rfl | ⟨h1, h2⟩)
    ·exact ⟨.inl rfl, fun e' => e e'.symm⟩
    ·exact ⟨.inr h1, h2⟩
   ·rintro ⟨rfl | h1, h2⟩
    ·exact .inl rfl
    ·exact .inr ⟨h1, h2⟩
theorem opDel_sub : ∀ {l : List (Int × Nat)} {c : Int}, (opDel l c).Sublist l
 | [], _ => List.Sublist.slnil
 | (q, v) :: l, c => by
  simp only [opDel]
  split
  ·exact List.sublist_cons_self _ _
  ·exact opDel_sub.cons_cons _
def newA (e : Ev) (n : Int) : At := ⟨e.core, e.block, e.tr, e.lane, n, -1, -1, [], [], false, 0, false, []⟩
def curA (s : St) (c : Int) : Option At := (opGet s.op c).bind (s.out[·]?)
def stepS (s : St) (n : Nat) (e : Ev) : Option St :=
 if mayB e (curA s e.core) then
  if plainB e then some s
  else match opGet s.op e.core with
   | none => some ⟨s.out ++ [newA e n], s.op ++ [(e.core, s.out.length)]⟩
   | some i => some ⟨s.out.set i (hearA (s.out.getD i default) n e), if (hearA (s.out.getD i default) n e).to ≥ 0 then opDel s.op e.core else s.op⟩
 else none
def sp (h : List Ev) : Nat → Option St
 | 0 => some ⟨[], []⟩
 | n + 1 => match sp h n, h[n]? with
  | some s, some e => stepS s n e
  | _, _ => none
def splitL (h : List Ev) : Option (List At) := (sp h h.length).map (·.out)
theorem sp_none {h : List Ev} {n m : Nat} (hn : sp h n = none) (hm : n ≤ m) : sp h m = none := by
 induction m with
 | zero => have : n = 0 := by omega
           subst this; exact hn
 | succ m ih =>
  by_cases e : n = m + 1
  ·rw [← e]; exact hn
  ·simp only [sp]; rw [ih (by omega)]
theorem sp_get {h : List Ev} {n : Nat} (hn : n < h.length) {s : St} (hs : sp h n = some s) : sp h (n + 1) = stepS s n h[n] := by
 simp only [sp]; rw [hs, List.getElem?_eq_getElem hn]
theorem hear_core (x : At) (n : Int) (e : Ev) : (hearA x n e).core = x.core ∧ (hearA x n e).block = x.block ∧ (hearA x n e).tr = x.tr ∧ (hearA x n e).lane = x.lane ∧ (hearA x n e).frm = x.frm := by
 unfold hearA loadA
 repeat' split
 all_goals exact ⟨rfl, rfl, rfl, rfl, rfl⟩
theorem hear_to (x : At) (n : Int) (e : Ev) : (hearA x n e).to = if e.kind = 5 ∨ e.kind = 6 then n else x.to := by
 unfold hearA loadA
 repeat' split
 all_goals first | rfl | omega
structure Ok (s : St) (n : Nat) : Prop where
 keys : (s.op.map (·.1)).Nodup
 open_ : ∀ c i, (c, i) ∈ s.op → ∃ x, s.out[i]? = some x ∧ x.core = c ∧ x.to = -1
 shut : ∀ i x, s.out[i]? = some x → x.to = -1 → (x.core, i) ∈ s.op
 rng : ∀ x ∈ s.out, 0 ≤ x.core ∧ x.core < 4 ∧ 1 ≤ x.lane ∧ x.lane ≤ 4 ∧ 0 ≤ x.frm ∧ x.frm < n ∧ -1 ≤ x.to ∧ x.to < n ∧ -1 ≤ x.point ∧ x.point < n
 len : s.out.length ≤ n
theorem Ok.cur {s : St} {n : Nat} (h : Ok s n) {c : Int} {i : Nat} (hi : opGet s.op c = some i) : ∃ x, s.out[i]? = some x ∧ s.out.getD i default = x ∧ curA s c = some x ∧ x.core = c ∧ x.to = -1 ∧ i < s.out.length := by
 obtain ⟨x, h1, h2, h3⟩ := h.open_ c i (opGet_mem hi)
 refine ⟨x, h1, by rw [List.getD_eq_getElem?_getD, h1]; rfl, by unfold curA; rw [hi]; exact h1, h2, h3, (List.getElem?_eq_some_iff.1 h1).1⟩
theorem Ok.mt (n : Nat) : Ok ⟨[], []⟩ n := ⟨by simp, by simp, by simp, by simp, by simp⟩
theorem may_core {e : Ev} {x : Option At} (h : mayB e x = true) : 1 ≤ e.kind ∧ e.kind ≤ 8 ∧ 0 ≤ e.core ∧ e.core < 4 := by
 unfold mayB at h
 split at h
 ·cases h
 ·rename_i g; omega
theorem may_begin {e : Ev} {x : Option At} (h : mayB e x = true) (hp : plainB e = false) : (x = none ↔ e.kind = 1) ∧ (e.kind = 1 → 1 ≤ e.lane ∧ e.lane ≤ 4 ∧ 0 ≤ e.block ∧ 0 ≤ e.tr) := by
 unfold mayB at h
 split at h
 ·cases h
 ·split at h
  ·rename_i hk
   simp only [Bool.and_eq_true, decide_eq_true_eq] at h
   exact ⟨⟨fun _ => hk, fun _ => by simpa using h.1⟩, fun _ => h.2⟩
  ·rename_i hk
   rw [hp] at h
   rw [if_neg (by simp)] at h
   refine ⟨⟨fun e => ?_, fun e => absurd e hk⟩, fun e => absurd e hk⟩
   subst e; cases h
theorem may_own {e : Ev} {x : At} (h : mayB e (some x) = true) : 2 ≤ e.kind ∧ e.kind ≤ 6 ∧ e.block = x.block ∧ e.tr = x.tr ∧ (e.kind = 6 → 1 ≤ e.code ∧ e.code ≤ 8) := by
 unfold mayB at h
 split at h
 ·cases h
 ·split at h
  ·simp at h
  ·split at h
   ·simp at h
   ·rename_i h0 h1 h2
    simp only [Bool.and_eq_true, beq_iff_eq, Bool.or_eq_true, Bool.not_eq_true', decide_eq_true_eq] at h
    have h2' : e.kind ≠ 7 ∧ e.kind ≠ 8 := by
     unfold plainB at h2
     simp at h2; exact h2
    refine ⟨by omega, by omega, h.1.symm, h.2.1.symm, fun h6 => ?_⟩
    rcases h.2.2 with h3 | h3
    ·simp [h6] at h3
    ·exact h3
theorem Ok.step {s s' : St} {n : Nat} {e : Ev} (h : Ok s n) (hs : stepS s n e = some s') : Ok s' (n + 1) := by
 have wk : Ok s (n + 1) := ⟨h.keys, h.open_, h.shut, fun x hx => by have := h.rng x hx; omega, by have := h.len; omega⟩
 unfold stepS at hs
 split at hs
 ·rename_i hm
  split at hs
  ·injection hs with hs; subst hs; exact wk
  ·rename_i hp
   have hp : plainB e = false := by simpa using hp
   cases ho : opGet s.op e.core with
   | none =>
    rw [ho] at hs
    simp only at hs; injection hs with hs; subst hs
    have hc : curA s e.core = none := by unfold curA; rw [ho]; rfl
    obtain ⟨hb1, hb2⟩ := may_begin hm hp
    have hb := hb2 (hb1.1 hc)
    have hcr := may_core hm
    have hno := opGet_none ho
    refine ⟨?_, ?_, ?_, ?_, ?_⟩
    ·rw [List.map_append, List.nodup_append]
     refine ⟨h.keys, by simp, ?_⟩
     intro a ha b hb'
     simp only [List.map_cons, List.map_nil, List.mem_singleton] at hb'
     subst hb'
     obtain ⟨p, hp1, rfl⟩ := List.mem_map.1 ha
     exact hno p hp1
    ·intro c i hci
     rcases List.mem_append.1 hci with h1 | h1
     ·obtain ⟨x, h2, h3⟩ := h.open_ c i h1
      refine ⟨x, ?_, h3⟩
      rw [List.getElem?_append_left (List.getElem?_eq_some_iff.1 h2).1]; exact h2
     ·simp only [List.mem_singleton] at h1
      injection h1 with h1 h2; subst h1; subst h2
      exact ⟨newA e n, by simp, rfl, rfl⟩
    ·intro i x hi hx
     by_cases hl : i < s.out.length
     ·rw [List.getElem?_append_left hl] at hi
      exact List.mem_append_left _ (h.shut i x hi hx)
     ·have : i = s.out.length := by
       have := (List.getElem?_eq_some_iff.1 hi).1
       simp at this; omega
      subst this
      simp at hi; subst hi
      simp [newA]
    ·intro x hx
     rcases List.mem_append.1 hx with h1 | h1
     ·have := h.rng x h1; omega
     ·simp only [List.mem_singleton] at h1; subst h1
      simp only [newA]; omega
    ·have := h.len; simp; omega
   | some i =>
    rw [ho] at hs
    simp only at hs; injection hs with hs; subst hs
    obtain ⟨x, hx1, hx2, hx3, hx4, hx5, hil⟩ := h.cur ho
    rw [hx2]
    rw [hx3] at hm
    have hk := may_own hm
    obtain ⟨c1, c2, c3, c4, c5⟩ := hear_core x n e
    have hto := hear_to x n e
    have hrx := h.rng x (List.mem_of_getElem? hx1)
    have hpt : -1 ≤ (hearA x n e).point ∧ (hearA x n e).point < (n : Int) + 1 := by
     unfold hearA loadA
     repeat' split
     all_goals (try simp only) <;> omega
    have hrng : ∀ y ∈ s.out.set i (hearA x n e), 0 ≤ y.core ∧ y.core < 4 ∧ 1 ≤ y.lane ∧ y.lane ≤ 4 ∧ 0 ≤ y.frm ∧ y.frm < ((n + 1 : Nat) : Int) ∧ -1 ≤ y.to ∧ y.to < ((n + 1 : Nat) : Int) ∧ -1 ≤ y.point ∧ y.point < ((n + 1 : Nat) : Int) := by
     intro y hy
     rcases List.mem_or_eq_of_mem_set hy with h1 | rfl
     ·have := h.rng y h1; omega
     ·rw [c1, c4, c5, hto]
      refine ⟨by omega, by omega, by omega, by omega, by omega, by omega, ?_, ?_, by omega, by omega⟩ <;> split <;> omega
    by_cases hk56 : e.kind = 5 ∨ e.kind = 6
    ·rw [if_pos hk56] at hto
     rw [if_pos (by rw [hto]; omega)]
     refine ⟨h.keys.sublist (opDel_sub.map _), ?_, ?_, hrng, by simp; have := h.len; omega⟩
     ·intro c j hcj
      obtain ⟨h1, h2⟩ := (opDel_mem h.keys _).1 hcj
      obtain ⟨y, h3, h4, h5⟩ := h.open_ c j h1
      have : i ≠ j := by
       rintro rfl
       rw [hx1] at h3; injection h3 with h3; subst h3
       exact h2 (by rw [← hx4, h4])
      exact ⟨y, by rw [List.getElem?_set_ne this]; exact h3, h4, h5⟩
     ·intro j y hj hy
      by_cases hij : i = j
      ·subst hij
       rw [List.getElem?_set] at hj
       simp [hil] at hj; subst hj; omega
      ·rw [List.getElem?_set_ne hij] at hj
       refine (opDel_mem h.keys _).2 ⟨h.shut j y hj hy, fun e' => hij ?_⟩
       have := opGet_of h.keys (h.shut j y hj hy)
       have e' : y.core = e.core := e'
       rw [e', ho] at this; injection this
    ·rw [if_neg hk56] at hto
     rw [if_neg (by rw [hto, hx5]; omega)]
     refine ⟨h.keys, ?_, ?_, hrng, by simp; have := h.len; omega⟩
     ·intro c j hcj
      obtain ⟨y, h3, h4, h5⟩ := h.open_ c j hcj
      by_cases hij : i = j
      ·subst hij
       rw [hx1] at h3; injection h3 with h3; subst h3
       exact ⟨hearA x n e, by rw [List.getElem?_set]; simp [hil], by rw [c1, h4], by rw [hto, hx5]⟩
      ·exact ⟨y, by rw [List.getElem?_set_ne hij]; exact h3, h4, h5⟩
     ·intro j y hj hy
      by_cases hij : i = j
      ·subst hij
       rw [List.getElem?_set] at hj
       simp [hil] at hj; subst hj
       rw [c1]; exact h.shut i x hx1 hx5
      ·rw [List.getElem?_set_ne hij] at hj
       exact h.shut j y hj hy
 ·cases hs
theorem sp_ok {h : List Ev} : ∀ {n : Nat} {s : St}, sp h n = some s → Ok s n
 | 0, s, hs => by simp only [sp] at hs; injection hs with hs; subst hs; exact Ok.mt 0
 | n + 1, s, hs => by
  simp only [sp] at hs
  split at hs
  ·rename_i s0 e h1 h2
   exact (sp_ok h1).step hs
  ·cases hs
theorem hear_len (x : At) (n : Int) (e : Ev) : (hearA x n e).loads.length ≤ x.loads.length + 1 ∧ (hearA x n e).stores.length ≤ x.stores.length + 1 ∧ (hearA x n e).touched.length ≤ x.touched.length + 1 := by
 have ht : (tch x.touched e.addr).length ≤ x.touched.length + 1 := by unfold tch; split <;> simp
 unfold hearA loadA putS
 repeat' split
 all_goals (try simp only [List.length_append, List.length_cons, List.length_nil, List.length_set]) <;> omega
theorem sp_lens {h : List Ev} : ∀ {n : Nat} {s : St}, sp h n = some s → ∀ x ∈ s.out, x.loads.length ≤ n ∧ x.stores.length ≤ n ∧ x.touched.length ≤ n
 | 0, s, hs, x, hx => by simp only [sp] at hs; injection hs with hs; subst hs; simp at hx
 | n + 1, s, hs, x, hx => by
  simp only [sp] at hs
  split at hs
  ·rename_i s0 e h1 h2
   have ih := sp_lens h1
   have ok := sp_ok h1
   unfold stepS at hs
   split at hs
   case isFalse => cases hs
   split at hs
   ·injection hs with hs; subst hs
    have := ih x hx; omega
   ·cases ho : opGet s0.op e.core with
    | none =>
     rw [ho] at hs; simp only at hs; injection hs with hs; subst hs
     rcases List.mem_append.1 hx with h3 | h3
     ·have := ih x h3; omega
     ·simp only [List.mem_singleton] at h3; subst h3; simp [newA]
    | some i =>
     rw [ho] at hs; simp only at hs; injection hs with hs; subst hs
     obtain ⟨y, y1, y2, y3, y4, y5, y6⟩ := ok.cur ho
     rw [y2] at hx
     rcases List.mem_or_eq_of_mem_set hx with h3 | rfl
     ·have := ih x h3; omega
     ·have := ih y (List.mem_of_getElem? y1)
      have := hear_len y n e
      omega
  ·cases hs
end Go.Hs
namespace Go.Hs
def evA (h : List Ev) (n : Nat) : Ev := h.getD n default
theorem evA_get {h : List Ev} {n : Nat} {e : Ev} (he : h[n]? = some e) : evA h n = e := by unfold evA; rw [List.getD_eq_getElem?_getD, he]; rfl
theorem evA_lt {h : List Ev} {n : Nat} (hn : n < h.length) : evA h n = h[n] := evA_get (List.getElem?_eq_getElem hn)
def openR (h : List Ev) (c : Int) : Nat → Int
 | 0 => -1
 | n + 1 => if (evA h n).core = c ∧ ((evA h n).kind = 5 ∨ (evA h n).kind = 6) then -1 else if (evA h n).core = c ∧ (evA h n).kind = 1 then n else openR h c n
def may1 (h : List Ev) (o : Int) (e : Ev) : Bool :=
 !(decide (e.kind < 1) || (decide (e.kind > 8) || (decide (e.core < 0) || decide (e.core ≥ 4)))) &&
 (!(wordB e && decide (e.addr < 0)) &&
 (!(e.kind == 1 && (decide (o ≥ 0) || (decide (e.lane < 1) || (decide (e.lane > 4) || (decide (e.block < 0) || decide (e.tr < 0)))))) &&
 (!(plainB e && decide (o ≥ 0)) &&
 (!(decide (e.kind ≥ 2) && (decide (e.kind ≤ 6) && (decide (o < 0) || (!((evA h o.toNat).block == e.block) || !((evA h o.toNat).tr == e.tr))))) &&
 !(e.kind == 6 && (decide (e.code < 1) || decide (e.code > 8)))))))
def mayTo (h : List Ev) : Nat → Bool
 | 0 => true
 | n + 1 => mayTo h n && may1 h (openR h (evA h n).core n) (evA h n)
def mayL (h : List Ev) : Bool := mayTo h h.length
def ownB (x : At) (e : Ev) : Bool := e.core == x.core && (e.block == x.block && (e.tr == x.tr && (decide (e.kind ≥ 2) && decide (e.kind ≤ 6))))
def oneTo (h : List Ev) (k : Nat) : Nat → At
 | 0 => newA (evA h k) k
 | n + 1 => if k < n ∧ (oneTo h k n).to < 0 ∧ ownB (oneTo h k n) (evA h n) = true then hearA (oneTo h k n) n (evA h n) else oneTo h k n
def begs (h : List Ev) : Nat → List Nat
 | 0 => []
 | n + 1 => if (evA h n).kind = 1 then begs h n ++ [n] else begs h n
theorem begs_lt (h : List Ev) : ∀ (n k : Nat), k ∈ begs h n → k < n ∧ (evA h k).kind = 1
 | 0, k, hk => by simp [begs] at hk
 | n + 1, k, hk => by
  simp only [begs] at hk
  split at hk
  ·rename_i h1
   rcases List.mem_append.1 hk with h2 | h2
   ·have := begs_lt h n k h2; exact ⟨by omega, this.2⟩
   ·simp only [List.mem_singleton] at h2; subst h2; exact ⟨by omega, h1⟩
  ·have := begs_lt h n k hk; exact ⟨by omega, this.2⟩
theorem oneTo_new (h : List Ev) (k : Nat) : ∀ n, n ≤ k + 1 → oneTo h k n = newA (evA h k) k
 | 0, _ => rfl
 | n + 1, hn => by
  simp only [oneTo]
  rw [if_neg (by omega)]
  exact oneTo_new h k n (by omega)
theorem oneTo_own (h : List Ev) (k : Nat) : ∀ n, (oneTo h k n).core = (evA h k).core ∧ (oneTo h k n).block = (evA h k).block ∧ (oneTo h k n).tr = (evA h k).tr ∧ (oneTo h k n).lane = (evA h k).lane ∧ (oneTo h k n).frm = k
 | 0 => ⟨rfl, rfl, rfl, rfl, rfl⟩
 | n + 1 => by
  have ih := oneTo_own h k n
  simp only [oneTo]
  split
  ·obtain ⟨h1, h2, h3, h4, h5⟩ := hear_core (oneTo h k n) n (evA h n)
   exact ⟨h1.trans ih.1, h2.trans ih.2.1, h3.trans ih.2.2.1, h4.trans ih.2.2.2.1, h5.trans ih.2.2.2.2⟩
  ·exact ih
structure Okh (h : List Ev) (s : St) (n : Nat) : Prop where
 ok : Ok s n
 opn : ∀ c, openR h c n = match opGet s.op c with | none => -1 | some i => (s.out.getD i default).frm
 outs : s.out = (begs h n).map fun k => oneTo h k n
theorem Okh.mt (h : List Ev) : Okh h ⟨[], []⟩ 0 := ⟨Ok.mt 0, fun _ => rfl, rfl⟩
theorem Okh.beg {h : List Ev} {s : St} {n : Nat} (k : Okh h s n) {i : Nat} {x : At} (hi : s.out[i]? = some x) : ∃ b, (begs h n)[i]? = some b ∧ x = oneTo h b n ∧ b < n ∧ (evA h b).kind = 1 := by
 rw [k.outs, List.getElem?_map] at hi
 cases hb : (begs h n)[i]? with
 | none => rw [hb] at hi; cases hi
 | some b =>
  rw [hb] at hi; injection hi with hi
  have := begs_lt h n b (List.mem_of_getElem? hb)
  exact ⟨b, rfl, hi.symm, this⟩
theorem word_iff (e : Ev) : wordB e = true ↔ e.kind = 2 ∨ e.kind = 3 ∨ e.kind = 7 ∨ e.kind = 8 := by
 unfold wordB plainB; simp
theorem plain_iff (e : Ev) : plainB e = true ↔ e.kind = 7 ∨ e.kind = 8 := by
 unfold plainB; simp
theorem oneTo_skip {h : List Ev} {k n : Nat} (hs : (oneTo h k n).to < 0 → ownB (oneTo h k n) (evA h n) = false) : oneTo h k (n + 1) = oneTo h k n := by
 simp only [oneTo]
 rw [if_neg]
 rintro ⟨_, h2, h3⟩
 rw [hs h2] at h3; cases h3
theorem map_set_ext {α β : Type} {f g : α → β} : ∀ {l : List α} {i : Nat} {y : β}, (∀ j a, l[j]? = some a → j ≠ i → f a = g a) → (∀ a, l[i]? = some a → f a = y) → l.map f = (l.map g).set i y
 | [], _, _, _, _ => rfl
 | a :: l, 0, y, h1, h2 => by
  simp only [List.map_cons, List.set_cons_zero]
  rw [h2 a rfl]
  congr 1
  exact List.map_congr_left fun b hb => by
   obtain ⟨j, hj⟩ := List.getElem?_of_mem hb
   exact h1 (j + 1) b (by simpa using hj) (by omega)
 | a :: l, i + 1, y, h1, h2 => by
  simp only [List.map_cons, List.set_cons_succ]
  rw [h1 0 a rfl (by omega)]
  congr 1
  exact map_set_ext (fun j b hj hne => h1 (j + 1) b (by simpa using hj) (by omega)) fun b hb => h2 b (by simpa using hb)
theorem Okh.step {h : List Ev} {s s' : St} {n : Nat} (k : Okh h s n) (hs : stepS s n (evA h n) = some s') : Okh h s' (n + 1) := by
 refine ⟨k.ok.step hs, ?_, ?_⟩
 ·intro c
  simp only [openR]
  unfold stepS at hs
  split at hs
  case isFalse => cases hs
  rename_i hm
  have hcr := may_core hm
  split at hs
  ·rename_i hp
   injection hs with hs; subst hs
   have := (plain_iff _).1 hp
   rw [if_neg (by omega), if_neg (by omega)]
   exact k.opn c
  ·rename_i hp
   have hp : plainB (evA h n) = false := by simpa using hp
   cases ho : opGet s.op (evA h n).core with
   | none =>
    rw [ho] at hs; simp only at hs; injection hs with hs; subst hs
    have hc : curA s (evA h n).core = none := by unfold curA; rw [ho]; rfl
    have hk := (may_begin hm hp).1.1 hc
    rw [if_neg (by omega)]
    by_cases e : (evA h n).core = c
    ·subst e
     rw [if_pos ⟨rfl, hk⟩]
     have : opGet (s.op ++ [((evA h n).core, s.out.length)]) (evA h n).core = some s.out.length := by
      refine opGet_of ((k.ok.step (e := evA h n) (s' := ⟨s.out ++ [newA (evA h n) n], s.op ++ [((evA h n).core, s.out.length)]⟩) ?_).keys) (by simp)
      unfold stepS; rw [if_pos hm, if_neg (by rw [hp]; simp), ho]
     simp only [this]
     rw [List.getD_eq_getElem?_getD]; simp [newA]
    ·rw [if_neg (by omega), k.opn c]
     have : opGet (s.op ++ [((evA h n).core, s.out.length)]) c = opGet s.op c := by
      have key : ∀ l : List (Int × Nat), opGet (l ++ [((evA h n).core, s.out.length)]) c = opGet l c := by
       intro l
       induction l with
       | nil => simp [opGet]; exact fun h => absurd h.symm e
       | cons p l ih => obtain ⟨q, v⟩ := p; simp only [List.cons_append, opGet, ih]
      exact key _
     simp only [this]
     cases hg : opGet s.op c with
     | none => rfl
     | some j =>
      obtain ⟨y, y1, y2, y3, y4, y5, y6⟩ := k.ok.cur hg
      simp only
      rw [List.getD_eq_getElem?_getD, List.getD_eq_getElem?_getD, List.getElem?_append_left y6]
   | some i =>
    rw [ho] at hs; simp only at hs; injection hs with hs; subst hs
    obtain ⟨x, h1, h2, h3, h4, h5, h6⟩ := k.ok.cur ho
    rw [h2]
    rw [h3] at hm
    have hk := may_own hm
    have hto := hear_to x n (evA h n)
    obtain ⟨c1, c2, c3, c4, c5⟩ := hear_core x n (evA h n)
    by_cases h56 : (evA h n).kind = 5 ∨ (evA h n).kind = 6
    ·rw [if_pos h56] at hto
     rw [if_pos (show (hearA x n (evA h n)).to ≥ 0 by rw [hto]; omega)]
     have hdel : ∀ c, opGet (opDel s.op (evA h n).core) c = if c = (evA h n).core then none else opGet s.op c := by
      intro c
      cases hg : opGet (opDel s.op (evA h n).core) c with
      | none =>
       split
       ·rfl
       ·rename_i hne
        cases hg2 : opGet s.op c with
        | none => rfl
        | some j => exact absurd rfl (opGet_none hg _ ((opDel_mem k.ok.keys _).2 ⟨opGet_mem hg2, hne⟩))
      | some j =>
       obtain ⟨m1, m2⟩ := (opDel_mem k.ok.keys _).1 (opGet_mem hg)
       rw [if_neg m2]
       exact (opGet_of k.ok.keys m1).symm
     simp only [hdel]
     by_cases e : (evA h n).core = c
     ·rw [if_pos ⟨e, h56⟩, if_pos e.symm]
     ·rw [if_neg (by omega), if_neg (by omega), if_neg (fun h => e h.symm), k.opn c]
      cases hg : opGet s.op c with
      | none => rfl
      | some j =>
       have hij : i ≠ j := by
        rintro rfl
        obtain ⟨y, y1, y2, y3, y4, y5, y6⟩ := k.ok.cur hg
        rw [h1] at y1; injection y1 with y1; subst y1
        exact e (by rw [← h4, y4])
       simp only
       rw [List.getD_eq_getElem?_getD, List.getD_eq_getElem?_getD, List.getElem?_set_ne hij]
    ·rw [if_neg h56] at hto
     rw [if_neg (show ¬ (hearA x n (evA h n)).to ≥ 0 by rw [hto, h5]; omega), if_neg (by omega), if_neg (by omega), k.opn c]
     cases hg : opGet s.op c with
     | none => rfl
     | some j =>
      simp only
      by_cases hij : i = j
      ·subst hij
       rw [h2, List.getD_eq_getElem?_getD, List.getElem?_set]
       simp [h6, c5]
      ·rw [List.getD_eq_getElem?_getD, List.getD_eq_getElem?_getD, List.getElem?_set_ne hij]
 ·simp only [begs]
  unfold stepS at hs
  split at hs
  case isFalse => cases hs
  rename_i hm
  have hcr := may_core hm
  have skip : ∀ b ∈ begs h n, ((oneTo h b n).to < 0 → ownB (oneTo h b n) (evA h n) = false) → oneTo h b (n + 1) = oneTo h b n := fun b _ hb => oneTo_skip hb
  split at hs
  ·rename_i hp
   injection hs with hs; subst hs
   have := (plain_iff _).1 hp
   rw [if_neg (by omega), k.outs]
   refine List.map_congr_left fun b hb => (skip b hb fun _ => ?_).symm
   unfold ownB
   rw [decide_eq_false (show ¬ (evA h n).kind ≤ 6 by omega)]; simp
  ·rename_i hp
   have hp : plainB (evA h n) = false := by simpa using hp
   cases ho : opGet s.op (evA h n).core with
   | none =>
    rw [ho] at hs; simp only at hs; injection hs with hs; subst hs
    have hc : curA s (evA h n).core = none := by unfold curA; rw [ho]; rfl
    have hk := (may_begin hm hp).1.1 hc
    rw [if_pos hk, List.map_append, List.map_cons, List.map_nil, oneTo_new h n (n + 1) (Nat.le_refl _)]
    show s.out ++ [newA (evA h n) n] = _
    congr 1
    rw [k.outs]
    refine List.map_congr_left fun b hb => (skip b hb fun _ => ?_).symm
    unfold ownB
    rw [decide_eq_false (show ¬ (evA h n).kind ≥ 2 by omega)]; simp
   | some i =>
    rw [ho] at hs; simp only at hs; injection hs with hs; subst hs
    obtain ⟨x, h1, h2, h3, h4, h5, h6⟩ := k.ok.cur ho
    rw [h3] at hm
    have hk := may_own hm
    have hne1 : ¬ (evA h n).kind = 1 := by omega
    rw [if_neg hne1, h2]
    symm
    show _ = s.out.set i _
    conv => rhs; rw [k.outs]
    refine map_set_ext (fun j b hj hne => ?_) fun b hb => ?_
    ·refine skip b (List.mem_of_getElem? hj) fun hto => ?_
     have hy : s.out[j]? = some (oneTo h b n) := by rw [k.outs, List.getElem?_map, hj]; rfl
     have hr := k.ok.rng _ (List.mem_of_getElem? hy)
     have hop := opGet_of k.ok.keys (k.ok.shut j _ hy (by omega))
     unfold ownB
     have : ((evA h n).core == (oneTo h b n).core) = false := by
      rw [beq_eq_false_iff_ne]
      intro e
      rw [← e, ho] at hop; injection hop with hop; exact hne hop.symm
     rw [this]; rfl
    ·obtain ⟨b', q1, q2, q3, q4⟩ := k.beg h1
     rw [hb] at q1; injection q1 with q1; subst q1
     simp only [oneTo]
     rw [if_pos, ← q2]
     refine ⟨q3, by rw [← q2]; omega, ?_⟩
     rw [← q2]
     unfold ownB
     rw [h4, hk.2.2.1, hk.2.2.2.1, decide_eq_true hk.1, decide_eq_true hk.2.1]; simp
end Go.Hs
namespace Go.Hs
end Go.Hs
namespace Go.Hs
def mGet : List Pr → Int → Option Int
 | [], _ => none
 | (q, v) :: l, a => if a = q then some v else mGet l a
def mPut : List Pr → Int → Int → List Pr
 | [], a, v => [(a, v)]
 | (q, u) :: l, a, v => if a = q then (a, v) :: l else (q, u) :: mPut l a v
def memF (m : List Pr) (a : Int) : Int := (mGet m a).getD 0
theorem mGet_put : ∀ (m : List Pr) (a v b : Int), mGet (mPut m a v) b = if b = a then some v else mGet m b
 | [], a, v, b => by simp [mPut, mGet]
 | (q, u) :: m, a, v, b => by
  simp only [mPut]
  split
  ·rename_i e
   subst e
   simp only [mGet]
   by_cases hb : b = a
   ·rw [if_pos hb, if_pos hb]
   ·rw [if_neg hb, if_neg hb, if_neg hb]
  ·rename_i e
   simp only [mGet, mGet_put m a v b]
   by_cases h : b = q
   ·subst h
    rw [if_pos rfl, if_neg (fun h => e h.symm), if_pos rfl]
   ·rw [if_neg h, if_neg h]
theorem memF_put (m : List Pr) (a v b : Int) : memF (mPut m a v) b = if b = a then v else memF m b := by
 unfold memF; rw [mGet_put]; split <;> rfl
def begTo (first : List Int) : Nat → List Pr
 | 0 => []
 | n + 1 => mPut (begTo first n) n (first.getD n 0)
def begL (first : List Int) : List Pr := begTo first first.length
def firF (first : List Int) (a : Int) : Int := if 0 ≤ a ∧ a < first.length then first.getD a.toNat 0 else 0
theorem begTo_F (first : List Int) : ∀ n, n ≤ first.length → ∀ a, memF (begTo first n) a = if 0 ≤ a ∧ a < n then first.getD a.toNat 0 else 0
 | 0, _, a => by
  rw [if_neg (by omega)]; rfl
 | n + 1, hn, a => by
  simp only [begTo]
  rw [memF_put, begTo_F first n (by omega) a]
  by_cases h : a = n
  ·subst h; rw [if_pos rfl, if_pos (by omega), Int.toNat_natCast]
  ·rw [if_neg h]
   by_cases h2 : 0 ≤ a ∧ a < n
   ·rw [if_pos h2, if_pos (by omega)]
   ·rw [if_neg h2, if_neg (by omega)]
theorem begL_F (first : List Int) (a : Int) : memF (begL first) a = firF first a := begTo_F first first.length (Nat.le_refl _) a
def putAll (m : List Pr) (l : List Pr) : List Pr := l.foldl (fun m p => mPut m p.1 p.2) m
theorem putAll_snoc (m l : List Pr) (p : Pr) : putAll m (l ++ [p]) = mPut (putAll m l) p.1 p.2 := by unfold putAll; rw [List.foldl_append]; rfl
def ptAt (l : List At) (n : Nat) : Option At := l.reverse.find? fun x => x.point == (n : Int)
def explB (m : List Pr) (e : Ev) : Option At → Bool
 | none => !(e.kind == 7) || memF m e.addr == e.value
 | some x => !x.odd && x.loads.all fun p => memF m p.1 == p.2
def goesM (m : List Pr) (e : Ev) : Option At → List Pr
 | none => if e.kind = 8 then mPut m e.addr e.value else m
 | some x => if x.com then putAll m x.stores else m
def hapB (h : List Ev) (l : List At) (n : Nat) : Bool := (ptAt l n).isSome || plainB (evA h n)
def memTo (h : List Ev) (l : List At) (m : List Pr) : Nat → List Pr
 | 0 => m
 | n + 1 => if hapB h l n then goesM (memTo h l m n) (evA h n) (ptAt l n) else memTo h l m n
def badAt (h : List Ev) (l : List At) (m : List Pr) (n : Nat) : Bool := hapB h l n && !explB (memTo h l m n) (evA h n) (ptAt l n)
end Go.Hs
namespace Go.Hs
theorem hear_pt (x : At) (n : Int) (e : Ev) : (hearA x n e).point = x.point ∨ ((hearA x n e).point = n ∧ (e.kind = 2 ∨ e.kind = 4 ∨ e.kind = 5)) := by
 unfold hearA loadA
 repeat' split
 all_goals first | exact .inl rfl | (right; exact ⟨rfl, by omega⟩)
theorem putS_keys {l : List Pr} {a v : Int} (h : (l.map (·.1)).Nodup) : ((putS l a v).map (·.1)).Nodup := by
 unfold putS
 split
 ·rename_i i hf
  obtain ⟨h1, h2, _⟩ := findN_some hf
  rw [List.map_set]
  have : (l.map (·.1)).set i a = l.map (·.1) := by
   apply List.ext_getElem?
   intro j
   rw [List.getElem?_set]
   by_cases e : i = j
   ·subst e
    rw [if_pos rfl, if_pos (by simpa using h1), List.getElem?_map, List.getElem?_eq_getElem h1]
    rw [List.getD_eq_getElem?_getD, List.getElem?_eq_getElem h1] at h2
    simp only [Option.getD_some] at h2
    simp [h2]
   ·rw [if_neg e]
  rw [this]; exact h
 ·rename_i hf
  rw [List.map_append, List.nodup_append]
  refine ⟨h, by simp, fun q hq r hr => ?_⟩
  simp only [List.map_cons, List.map_nil, List.mem_singleton] at hr
  subst hr
  obtain ⟨p, hp, rfl⟩ := List.mem_map.1 hq
  exact findN_none hf p hp
theorem hear_st {x : At} {n : Int} {e : Ev} (h : (x.stores.map (·.1)).Nodup) : ((hearA x n e).stores.map (·.1)).Nodup := by
 unfold hearA loadA
 repeat' split
 all_goals first | exact h | exact putS_keys h
theorem hear_ld {x : At} {n : Int} {e : Ev} (h : ∀ p ∈ x.loads, 0 ≤ p.1) (he : e.kind = 2 → 0 ≤ e.addr) : ∀ p ∈ (hearA x n e).loads, 0 ≤ p.1 := by
 unfold hearA loadA
 repeat' split
 all_goals first
  | exact h
  | (intro p hp
     rcases List.mem_append.1 hp with h1 | h1
     · exact h p h1
     · simp only [List.mem_singleton] at h1
       subst h1
       exact he ‹_›)
theorem hear_odd {x : At} {n : Int} {e : Ev} (h : x.odd = true → x.loads ≠ []) : (hearA x n e).odd = true → (hearA x n e).loads ≠ [] := by
 unfold hearA loadA
 repeat' split
 all_goals first
  | exact h
  | (rename_i hf
     intro _ hn
     have := (findN_some hf).1
     simp only at hn
     rw [hn] at this
     simp at this)
  | (intro _; simp)
  | skip
structure AtOk (h : List Ev) (n : Nat) (x : At) : Prop where
 pt : ∀ k : Nat, x.point = k → k < n ∧ ((evA h k).kind = 2 ∨ (evA h k).kind = 4 ∨ (evA h k).kind = 5)
 st : (x.stores.map (·.1)).Nodup
 ld : ∀ p ∈ x.loads, 0 ≤ p.1
 odd : x.odd = true → x.loads ≠ []
theorem AtOk.mono {h : List Ev} {n : Nat} {x : At} (k : AtOk h n x) : AtOk h (n + 1) x := ⟨fun m hm => ⟨by have := (k.pt m hm).1; omega, (k.pt m hm).2⟩, k.st, k.ld, k.odd⟩
theorem AtOk.hear {h : List Ev} {n : Nat} {x : At} (k : AtOk h n x) (he : (evA h n).kind = 2 → 0 ≤ (evA h n).addr) : AtOk h (n + 1) (hearA x n (evA h n)) := by
 refine ⟨fun m hm => ?_, hear_st k.st, hear_ld k.ld he, hear_odd k.odd⟩
 rcases hear_pt x n (evA h n) with h1 | ⟨h1, h2⟩
 ·rw [h1] at hm
  exact (k.mono).pt m hm
 ·rw [h1] at hm
  have : m = n := by omega
  subst this
  exact ⟨by omega, h2⟩
theorem memF_all : ∀ (l : List Pr) (m : List Pr) (a : Int), (l.map (·.1)).Nodup → memF (putAll m l) a = match findN l a with | some j => (l.getD j (0, 0)).2 | none => memF m a
 | [], m, a, _ => rfl
 | p :: l, m, a, h => by
  simp only [List.map_cons, List.nodup_cons] at h
  have ih := memF_all l (mPut m p.1 p.2) a h.2
  show memF (putAll (mPut m p.1 p.2) l) a = _
  rw [ih]
  simp only [findN]
  by_cases e : p.1 = a
  ·subst e
   rw [if_pos rfl]
   have hn : findN l p.1 = none := by
    cases hf : findN l p.1 with
    | none => rfl
    | some j =>
     obtain ⟨h1, h2, _⟩ := findN_some hf
     exact absurd (by rw [← h2, List.getD_eq_getElem?_getD, List.getElem?_eq_getElem h1]; exact List.mem_map_of_mem (f := fun p : Pr => p.1) (List.getElem_mem h1)) h.1
   rw [hn]
   simp only
   rw [memF_put, if_pos rfl]; rfl
  ·rw [if_neg e]
   cases hf : findN l a with
   | none =>
    simp only [Option.map_none]
    rw [memF_put, if_neg (fun h => e h.symm)]
   | some j => rfl
def One (l : List At) (k : Nat) : Prop := ∀ (i j : Nat) (x y : At), l[i]? = some x → l[j]? = some y → x.point = k → y.point = k → i = j
structure AtsOk (h : List Ev) (l : List At) : Prop where
 ok : ∀ x ∈ l, AtOk h h.length x
 one : ∀ k, One l k
end Go.Hs
namespace Go.Hs
def upN (k : Nat) (n : Int) : Int := if n < 0 then n else n + k
def upA (k : Nat) (x : At) : At := { x with frm := upN k x.frm, point := upN k x.point, to := upN k x.to }
def upS (k : Nat) (o : List At) (s : St) : St := ⟨o ++ s.out.map (upA k), s.op.map fun p => (p.1, p.2 + o.length)⟩
theorem opGet_up (m : Nat) : ∀ (l : List (Int × Nat)) (c : Int), opGet (l.map fun p => (p.1, p.2 + m)) c = (opGet l c).map (· + m)
 | [], _ => rfl
 | (q, v) :: l, c => by
  simp only [List.map_cons, opGet]
  split
  ·rfl
  ·exact opGet_up m l c
theorem opDel_up (m : Nat) : ∀ (l : List (Int × Nat)) (c : Int), opDel (l.map fun p => (p.1, p.2 + m)) c = (opDel l c).map fun p => (p.1, p.2 + m)
 | [], _ => rfl
 | (q, v) :: l, c => by
  simp only [List.map_cons, opDel]
  split
  ·rfl
  ·rw [List.map_cons, opDel_up m l c]
theorem up_load (k : Nat) (x : At) (e : Ev) : loadA (upA k x) e = upA k (loadA x e) := by
 unfold loadA
 simp only [upA]
 split
 ·rfl
 ·split <;> rfl
theorem upN_nat (k n : Nat) : upN k (n : Int) = ((k + n : Nat) : Int) := by unfold upN; rw [if_neg (by omega)]; omega
theorem up_hear (k n : Nat) (x : At) (e : Ev) : hearA (upA k x) ((k + n : Nat) : Int) e = upA k (hearA x (n : Int) e) := by
 unfold hearA
 rw [up_load, show hardB (upA k x) = hardB x from rfl, ← upN_nat]
 repeat' split
 all_goals rfl
theorem up_new (k n : Nat) (e : Ev) : newA e ((k + n : Nat) : Int) = upA k (newA e (n : Int)) := by
 unfold newA upA
 simp only [upN_nat]
 rfl
theorem may_up (k : Nat) (e : Ev) (x : Option At) : mayB e (x.map (upA k)) = mayB e x := by
 unfold mayB
 cases x <;> rfl
theorem cur_up (k : Nat) (o : List At) (s : St) (c : Int) : curA (upS k o s) c = (curA s c).map (upA k) := by
 unfold curA upS
 simp only [opGet_up]
 cases opGet s.op c with
 | none => rfl
 | some i =>
  simp only [Option.map_some, Option.bind_some]
  rw [List.getElem?_append_right (by omega), show i + o.length - o.length = i by omega, List.getElem?_map]
theorem step_up (k n : Nat) (o : List At) (s : St) (e : Ev) (hop : ∀ c i, opGet s.op c = some i → i < s.out.length) : stepS (upS k o s) (k + n) e = (stepS s n e).map (upS k o) := by
 unfold stepS
 rw [cur_up, may_up]
 split
 ·split
  ·rfl
  ·have h1 : opGet (upS k o s).op e.core = (opGet s.op e.core).map (· + o.length) := opGet_up _ _ _
   rw [h1]
   cases hq : opGet s.op e.core with
   | none =>
    simp only [Option.map_none, Option.map_some, upS, List.map_append, List.map_cons, List.map_nil, List.append_assoc, List.length_append, List.length_map]
    rw [up_new, Nat.add_comm o.length]
   | some i =>
    have hi := hop _ _ hq
    simp only [Option.map_some, upS]
    have h2 : (o ++ s.out.map (upA k)).getD (i + o.length) default = upA k (s.out.getD i default) := by
     rw [List.getD_eq_getElem?_getD, List.getD_eq_getElem?_getD, List.getElem?_append_right (by omega), show i + o.length - o.length = i by omega, List.getElem?_map, List.getElem?_eq_getElem hi]; rfl
    simp only [h2, up_hear]
    have h3 : (o ++ s.out.map (upA k)).set (i + o.length) (upA k (hearA (s.out.getD i default) n e)) = o ++ (s.out.set i (hearA (s.out.getD i default) n e)).map (upA k) := by
     rw [List.set_append_right _ _ (by omega), show i + o.length - o.length = i by omega, List.map_set]
    simp only [h3]
    have h4 : ((upA k (hearA (s.out.getD i default) n e)).to ≥ 0) = ((hearA (s.out.getD i default) n e).to ≥ 0) := by
     show (upN k _ ≥ 0) = _
     unfold upN
     split
     ·rfl
     ·simp only [eq_iff_iff]; constructor <;> intro <;> omega
    simp only [h4, opDel_up]
    split <;> rfl
 ·rfl
theorem sp_app (a b : List Ev) : ∀ n, n ≤ a.length → sp (a ++ b) n = sp a n
 | 0, _ => rfl
 | n + 1, h => by
  simp only [sp]
  rw [sp_app a b n (by omega), List.getElem?_append_left (by omega)]
def overL (l : List At) : Bool := l.all fun x => decide (0 ≤ x.to)
theorem over_op {h : List Ev} {s : St} {n : Nat} (hs : sp h n = some s) (ho : overL s.out = true) : s.op = [] := by
 have ok := sp_ok hs
 cases hq : s.op with
 | nil => rfl
 | cons p q =>
  obtain ⟨x, h1, h2, h3⟩ := ok.open_ p.1 p.2 (by rw [hq]; simp)
  have := List.all_eq_true.1 ho x (List.mem_of_getElem? h1)
  simp only [decide_eq_true_eq] at this
  omega
theorem sp_two {a : List Ev} {s : St} (hs : sp a a.length = some s) (ho : overL s.out = true) (b : List Ev) : ∀ n, n ≤ b.length → sp (a ++ b) (a.length + n) = (sp b n).map (upS a.length s.out)
 | 0, _ => by
  rw [Nat.add_zero, sp_app a b _ (Nat.le_refl _), hs]
  have := over_op hs ho
  obtain ⟨out, op⟩ := s
  simp only at this
  subst this
  simp [sp, upS]
 | n + 1, hn => by
  rw [show a.length + (n + 1) = (a.length + n) + 1 by omega]
  simp only [sp]
  rw [sp_two hs ho b n (by omega), List.getElem?_append_right (by omega), show a.length + n - a.length = n by omega]
  cases hb : sp b n with
  | none => rfl
  | some t =>
   rw [List.getElem?_eq_getElem (by omega)]
   simp only [Option.map_some]
   exact step_up _ _ _ _ _ fun c i hi => ((sp_ok hb).cur hi).elim fun x hx => hx.2.2.2.2.2
theorem split_two {a b : List Ev} {la : List At} (ha : splitL a = some la) (ho : overL la = true) : splitL (a ++ b) = (splitL b).map fun lb => la ++ lb.map (upA a.length) := by
 unfold splitL at ha ⊢
 cases hq : sp a a.length with
 | none => rw [hq] at ha; cases ha
 | some s =>
  rw [hq] at ha; injection ha with ha
  have ha : s.out = la := ha
  rw [List.length_append, sp_two hq (by rw [ha]; exact ho) b _ (Nat.le_refl _)]
  cases sp b b.length with
  | none => rfl
  | some t => simp [upS, ha]
theorem evA_left {a b : List Ev} {n : Nat} (hn : n < a.length) : evA (a ++ b) n = evA a n := by
 unfold evA; rw [List.getD_eq_getElem?_getD, List.getD_eq_getElem?_getD, List.getElem?_append_left hn]
theorem evA_right (a b : List Ev) (n : Nat) : evA (a ++ b) (a.length + n) = evA b n := by
 unfold evA; rw [List.getD_eq_getElem?_getD, List.getD_eq_getElem?_getD, List.getElem?_append_right (by omega), show a.length + n - a.length = n by omega]
theorem upN_point {k n : Nat} {p : Int} (hp : -1 ≤ p) : (upN k p == (n : Int)) = (decide (k ≤ n) && (p == ((n - k : Nat) : Int))) := by
 unfold upN
 rw [Bool.eq_iff_iff]
 simp only [beq_iff_eq, Bool.and_eq_true, decide_eq_true_eq]
 split <;> constructor <;> intro <;> omega
structure Lay (a b : List Ev) (la lb : List At) : Prop where
 pa : ∀ x ∈ la, -1 ≤ x.point ∧ x.point < a.length
 pb : ∀ x ∈ lb, -1 ≤ x.point
theorem find_map_congr {α β : Type} (f : α → β) (p : β → Bool) (q : α → Bool) : ∀ (l : List α), (∀ x ∈ l, p (f x) = q x) → (l.map f).find? p = (l.find? q).map f
 | [], _ => rfl
 | x :: l, h => by
  simp only [List.map_cons, List.find?_cons]
  rw [h x (by simp)]
  split
  ·rfl
  ·exact find_map_congr f p q l fun y hy => h y (by simp [hy])
theorem pt_left {a b : List Ev} {la lb : List At} (y : Lay a b la lb) {n : Nat} (hn : n < a.length) : ptAt (la ++ lb.map (upA a.length)) n = ptAt la n := by
 unfold ptAt
 rw [List.reverse_append, List.find?_append]
 have : (lb.map (upA a.length)).reverse.find? (fun x => x.point == (n : Int)) = none := by
  rw [List.find?_eq_none]
  intro x hx
  rw [List.mem_reverse, List.mem_map] at hx
  obtain ⟨z, hz, rfl⟩ := hx
  show ¬ (upN a.length z.point == (n : Int)) = true
  rw [upN_point (y.pb z hz)]
  simp; omega
 rw [this]; rfl
theorem pt_right {a b : List Ev} {la lb : List At} (y : Lay a b la lb) (n : Nat) : ptAt (la ++ lb.map (upA a.length)) (a.length + n) = (ptAt lb n).map (upA a.length) := by
 unfold ptAt
 rw [List.reverse_append, List.find?_append, ← List.map_reverse]
 rw [find_map_congr (upA a.length) _ (fun x => x.point == (n : Int)) _ (fun x hx => by
  show (upN a.length x.point == ((a.length + n : Nat) : Int)) = _
  rw [upN_point (y.pb x (by simpa using hx)), show a.length + n - a.length = n by omega]
  simp)]
 have : la.reverse.find? (fun x => x.point == ((a.length + n : Nat) : Int)) = none := by
  rw [List.find?_eq_none]
  intro x hx
  have := (y.pa x (by simpa using hx)).2
  simp; omega
 rw [this]; simp
theorem hap_left {a b : List Ev} {la lb : List At} (y : Lay a b la lb) {n : Nat} (hn : n < a.length) : hapB (a ++ b) (la ++ lb.map (upA a.length)) n = hapB a la n := by
 unfold hapB; rw [pt_left y hn, evA_left hn]
theorem hap_right {a b : List Ev} {la lb : List At} (y : Lay a b la lb) (n : Nat) : hapB (a ++ b) (la ++ lb.map (upA a.length)) (a.length + n) = hapB b lb n := by
 unfold hapB; rw [pt_right y, evA_right]; cases ptAt lb n <;> rfl
theorem goes_up (k : Nat) (m : List Pr) (e : Ev) (x : Option At) : goesM m e (x.map (upA k)) = goesM m e x := by cases x <;> rfl
theorem expl_up (k : Nat) (m : List Pr) (e : Ev) (x : Option At) : explB m e (x.map (upA k)) = explB m e x := by cases x <;> rfl
theorem mem_left {a b : List Ev} {la lb : List At} (y : Lay a b la lb) (m : List Pr) : ∀ n, n ≤ a.length → memTo (a ++ b) (la ++ lb.map (upA a.length)) m n = memTo a la m n
 | 0, _ => rfl
 | n + 1, hn => by
  simp only [memTo]
  rw [hap_left y (by omega), mem_left y m n (by omega), evA_left (by omega), pt_left y (by omega)]
theorem mem_right {a b : List Ev} {la lb : List At} (y : Lay a b la lb) (m : List Pr) : ∀ n, memTo (a ++ b) (la ++ lb.map (upA a.length)) m (a.length + n) = memTo b lb (memTo a la m a.length) n
 | 0 => mem_left y m _ (Nat.le_refl _)
 | n + 1 => by
  rw [show a.length + (n + 1) = (a.length + n) + 1 by omega]
  simp only [memTo]
  rw [hap_right y, mem_right y m n, evA_right, pt_right y, goes_up]
theorem bad_left {a b : List Ev} {la lb : List At} (y : Lay a b la lb) (m : List Pr) {n : Nat} (hn : n < a.length) : badAt (a ++ b) (la ++ lb.map (upA a.length)) m n = badAt a la m n := by
 unfold badAt; rw [hap_left y hn, mem_left y m n (by omega), evA_left hn, pt_left y hn]
theorem bad_right {a b : List Ev} {la lb : List At} (y : Lay a b la lb) (m : List Pr) (n : Nat) : badAt (a ++ b) (la ++ lb.map (upA a.length)) m (a.length + n) = badAt b lb (memTo a la m a.length) n := by
 unfold badAt; rw [hap_right y, mem_right y, evA_right, pt_right y, expl_up]
def SameM (m m' : List Pr) : Prop := ∀ a, memF m a = memF m' a
theorem SameM.put {m m' : List Pr} (h : SameM m m') (a v : Int) : SameM (mPut m a v) (mPut m' a v) := fun b => by rw [memF_put, memF_put, h b]
theorem SameM.all {m m' : List Pr} (l : List Pr) (h : SameM m m') : SameM (putAll m l) (putAll m' l) := by
 induction l generalizing m m' with
 | nil => exact h
 | cons p l ih => exact ih (h.put p.1 p.2)
theorem SameM.goes {m m' : List Pr} (h : SameM m m') (e : Ev) (x : Option At) : SameM (goesM m e x) (goesM m' e x) := by
 cases x with
 | none => simp only [goesM]; split; exact h.put _ _; exact h
 | some x => simp only [goesM]; split; exact h.all _; exact h
theorem SameM.to {m m' : List Pr} (h : SameM m m') (b : List Ev) (l : List At) : ∀ n, SameM (memTo b l m n) (memTo b l m' n)
 | 0 => h
 | n + 1 => by
  simp only [memTo]
  split
  ·exact (SameM.to h b l n).goes _ _
  ·exact SameM.to h b l n
theorem SameM.expl {m m' : List Pr} (h : SameM m m') (e : Ev) (x : Option At) : explB m e x = explB m' e x := by
 cases x with
 | none => simp only [explB]; rw [h]
 | some x =>
  simp only [explB]
  rw [show (fun p : Pr => memF m p.1 == p.2) = fun p => memF m' p.1 == p.2 from funext fun p => by rw [h]]
theorem SameM.bad {m m' : List Pr} (h : SameM m m') (b : List Ev) (l : List At) (n : Nat) : badAt b l m n = badAt b l m' n := by
 unfold badAt; rw [(h.to b l n).expl]
def InR (P : Int → Prop) (x : At) : Prop := ∀ p ∈ x.stores, P p.1
theorem putS_in {P : Int → Prop} {l : List Pr} {a v : Int} (h : ∀ p ∈ l, P p.1) (ha : P a) : ∀ p ∈ putS l a v, P p.1 := by
 intro p hp
 unfold putS at hp
 split at hp
 ·rcases List.mem_or_eq_of_mem_set hp with h1 | h1
  ·exact h p h1
  ·rw [h1]; exact ha
 ·rcases List.mem_append.1 hp with h1 | h1
  ·exact h p h1
  ·simp only [List.mem_singleton] at h1; rw [h1]; exact ha
theorem InR.hear {P : Int → Prop} {x : At} {n : Int} {e : Ev} (h : InR P x) (he : e.kind = 3 → P e.addr) : InR P (hearA x n e) := by
 unfold InR hearA loadA
 repeat' split
 all_goals first
  | exact h
  | exact putS_in h (he ‹_›)
theorem lay_of {a b : List Ev} {la lb : List At} (ha : splitL a = some la) (hb : splitL b = some lb) : Lay a b la lb := by
 unfold splitL at ha hb
 cases hq : sp a a.length with
 | none => rw [hq] at ha; cases ha
 | some s =>
  cases hr : sp b b.length with
  | none => rw [hr] at hb; cases hb
  | some t =>
   rw [hq] at ha; rw [hr] at hb; injection ha with ha; injection hb with hb
   subst ha; subst hb
   exact ⟨fun x hx => ⟨((sp_ok hq).rng x hx).2.2.2.2.2.2.2.2.1, ((sp_ok hq).rng x hx).2.2.2.2.2.2.2.2.2⟩, fun x hx => ((sp_ok hr).rng x hx).2.2.2.2.2.2.2.2.1⟩
end Go.Hs
namespace Go.Hs
def valN (l : List Pr) (a : Int) : Option Int := (findN l a).map fun j => (l.getD j (0, 0)).2
theorem valN_cons (p : Pr) (l : List Pr) (a : Int) : valN (p :: l) a = if p.1 = a then some p.2 else valN l a := by
 unfold valN
 simp only [findN]
 split
 ·rfl
 ·cases findN l a <;> rfl
theorem putS_cons (p : Pr) (l : List Pr) (a v : Int) : putS (p :: l) a v = if p.1 = a then (a, v) :: l else p :: putS l a v := by
 unfold putS
 simp only [findN]
 by_cases h : p.1 = a
 ·rw [if_pos h, if_pos h]; rfl
 ·rw [if_neg h, if_neg h]
  cases findN l a <;> rfl
theorem valN_put : ∀ (l : List Pr) (a v b : Int), valN (putS l a v) b = if b = a then some v else valN l b
 | [], a, v, b => by
  show valN [(a, v)] b = _
  rw [valN_cons]
  by_cases h : b = a
  ·rw [if_pos h.symm, if_pos h]
  ·rw [if_neg fun e => h e.symm, if_neg h]
 | p :: l, a, v, b => by
  rw [putS_cons]
  by_cases h : p.1 = a
  ·rw [if_pos h, valN_cons, valN_cons]
   by_cases hb : b = a
   ·rw [if_pos hb, if_pos hb.symm]
   ·rw [if_neg fun e => hb e.symm, if_neg hb, if_neg fun e => hb (by omega)]
  ·rw [if_neg h, valN_cons, valN_cons, valN_put l a v b]
   by_cases hb : b = a
   ·rw [if_pos hb, if_neg fun e => h (by omega), if_pos hb]
   ·rw [if_neg hb, if_neg hb]
theorem memF_val (l m : List Pr) (a : Int) (h : (l.map (·.1)).Nodup) : memF (putAll m l) a = (valN l a).getD (memF m a) := by
 rw [memF_all l m a h]; unfold valN; cases findN l a <;> rfl
def xN (who : Ev) (es : List Ev) : Nat → At
 | 0 => newA who 0
 | k + 1 => hearA (xN who es k) ((k + 1 : Nat) : Int) (es.getD k default)
def OwnE (who e : Ev) : Prop := (e.kind = 2 ∨ e.kind = 3 ∨ e.kind = 4) ∧ e.core = who.core ∧ e.block = who.block ∧ e.tr = who.tr ∧ 0 ≤ e.addr
def EndE (who e : Ev) : Prop := (e.kind = 5 ∨ e.kind = 6 ∧ 1 ≤ e.code ∧ e.code ≤ 8) ∧ e.core = who.core ∧ e.block = who.block ∧ e.tr = who.tr
def BegE (who : Ev) : Prop := who.kind = 1 ∧ 0 ≤ who.core ∧ who.core < 4 ∧ 1 ≤ who.lane ∧ who.lane ≤ 4 ∧ 0 ≤ who.block ∧ 0 ≤ who.tr
theorem xN_ids (who : Ev) (es : List Ev) : ∀ k, (xN who es k).core = who.core ∧ (xN who es k).block = who.block ∧ (xN who es k).tr = who.tr ∧ (xN who es k).lane = who.lane
 | 0 => ⟨rfl, rfl, rfl, rfl⟩
 | k + 1 => by
  obtain ⟨h1, h2, h3, h4, _⟩ := hear_core (xN who es k) ((k + 1 : Nat) : Int) (es.getD k default)
  obtain ⟨i1, i2, i3, i4⟩ := xN_ids who es k
  exact ⟨h1.trans i1, h2.trans i2, h3.trans i3, h4.trans i4⟩
theorem may_mine {who e : Ev} {x : At} (hb : BegE who) (he : OwnE who e) (h2 : x.block = who.block) (h3 : x.tr = who.tr) : mayB e (some x) = true := by
 obtain ⟨hk, c1, c2, c3, c4⟩ := he
 obtain ⟨_, b1, b2, _⟩ := hb
 unfold mayB
 rw [if_neg (by omega), if_neg (by omega), if_neg (by unfold plainB; rcases hk with h | h | h <;> rw [h] <;> decide)]
 have h6 : (e.kind == 6) = false := by simp; omega
 simp [h2, h3, c2, c3, h6]
theorem may_end {who e : Ev} {x : At} (hb : BegE who) (he : EndE who e) (h2 : x.block = who.block) (h3 : x.tr = who.tr) : mayB e (some x) = true := by
 obtain ⟨hk, c1, c2, c3⟩ := he
 obtain ⟨_, b1, b2, _⟩ := hb
 have hw : wordB e = false := by unfold wordB plainB; rcases hk with h | h <;> simp [h]
 unfold mayB
 rw [if_neg (by rw [hw]; simp; omega), if_neg (by omega), if_neg (by unfold plainB; rcases hk with h | ⟨h, _⟩ <;> rw [h] <;> decide)]
 simp only [h2, h3, c2, c3, beq_self_eq_true, Bool.true_and, Bool.or_eq_true, Bool.not_eq_true', Bool.and_eq_true, decide_eq_true_eq]
 rcases hk with h | h
 ·left; simp [h]
 ·right; exact h.2
theorem sp_mine {who : Ev} {es tail : List Ev} (hb : BegE who) (he : ∀ e ∈ es, OwnE who e) : ∀ k, k ≤ es.length → sp (who :: (es ++ tail)) (k + 1) = some ⟨[xN who es k], [(who.core, 0)]⟩ ∧ (xN who es k).to = -1
 | 0, _ => by
  refine ⟨?_, rfl⟩
  show stepS ⟨[], []⟩ 0 who = _
  obtain ⟨b1, b2, b3, b4, b5, b6, b7⟩ := hb
  unfold stepS
  have hm : mayB who (curA ⟨[], []⟩ who.core) = true := by
   unfold mayB
   have hw : wordB who = false := by unfold wordB plainB; simp [b1]
   rw [if_neg (by rw [hw]; simp; omega), if_pos b1]
   simp [curA, opGet, b4, b5, b6, b7]
  have hp : plainB who = false := by unfold plainB; simp [b1]
  rw [if_pos hm, hp]; rfl
 | k + 1, hk => by
  obtain ⟨h1, h2⟩ := sp_mine (tail := tail) hb he k (by omega)
  obtain ⟨i1, i2, i3, _⟩ := xN_ids who es k
  have hg : (who :: (es ++ tail))[k + 1]? = some es[k] := by
   rw [List.getElem?_cons_succ, List.getElem?_append_left (by omega), List.getElem?_eq_getElem (by omega)]
  have hd : es.getD k default = es[k] := by rw [List.getD_eq_getElem?_getD, List.getElem?_eq_getElem (by omega)]; rfl
  have ho := he _ (List.getElem_mem (show k < es.length by omega))
  have hto : (xN who es (k + 1)).to = -1 := by
   show (hearA _ _ _).to = -1
   rw [hear_to, hd, if_neg (by have := ho.1; omega)]; exact h2
  refine ⟨?_, hto⟩
  show (match sp (who :: (es ++ tail)) (k + 1), (who :: (es ++ tail))[k + 1]? with | some s, some e => stepS s (k + 1) e | _, _ => none) = _
  rw [h1, hg]
  simp only
  unfold stepS
  have hcur : curA ⟨[xN who es k], [(who.core, 0)]⟩ es[k].core = some (xN who es k) := by unfold curA; simp [opGet, ho.2.1]
  have hog : opGet [(who.core, 0)] es[k].core = some 0 := by simp [opGet, ho.2.1]
  have hp : plainB es[k] = false := by unfold plainB; rcases ho.1 with h | h | h <;> simp [h]
  rw [hcur, if_pos (may_mine hb ho i2 i3), hp, hog]
  simp only [List.getD_cons_zero, List.set_cons_zero, Bool.false_eq_true, if_false]
  have hx : hearA (xN who es k) ((k + 1 : Nat) : Int) es[k] = xN who es (k + 1) := by show _ = hearA _ _ _; rw [hd]
  simp only [hx, hto]
  rfl
def xEnd (who : Ev) (es : List Ev) (e : Ev) : At := hearA (xN who es es.length) ((es.length + 1 : Nat) : Int) e
theorem split_block {who e : Ev} {es : List Ev} (hb : BegE who) (he : ∀ e ∈ es, OwnE who e) (hend : EndE who e) : splitL (who :: (es ++ [e])) = some [xEnd who es e] ∧ (xEnd who es e).to = ((es.length + 1 : Nat) : Int) := by
 obtain ⟨h1, h2⟩ := sp_mine (tail := [e]) hb he es.length (Nat.le_refl _)
 obtain ⟨i1, i2, i3, _⟩ := xN_ids who es es.length
 have hto : (xEnd who es e).to = ((es.length + 1 : Nat) : Int) := by
  unfold xEnd; rw [hear_to, if_pos (by have := hend.1; omega)]
 refine ⟨?_, hto⟩
 unfold splitL
 have hl : (who :: (es ++ [e])).length = es.length + 1 + 1 := by simp
 rw [hl]
 show Option.map _ (match sp (who :: (es ++ [e])) (es.length + 1), (who :: (es ++ [e]))[es.length + 1]? with | some s, some e => stepS s (es.length + 1) e | _, _ => none) = _
 rw [h1]
 have hg : (who :: (es ++ [e]))[es.length + 1]? = some e := by simp
 rw [hg]
 simp only
 unfold stepS
 have hcur : curA ⟨[xN who es es.length], [(who.core, 0)]⟩ e.core = some (xN who es es.length) := by unfold curA; simp [opGet, hend.2.1]
 have hog : opGet [(who.core, 0)] e.core = some 0 := by simp [opGet, hend.2.1]
 have hp : plainB e = false := by unfold plainB; rcases hend.1 with h | ⟨h, _⟩ <;> simp [h]
 rw [hcur, if_pos (may_end hb hend i2 i3), hp, hog]
 rfl
theorem pt_one (x : At) (n : Nat) : ptAt [x] n = if x.point = n then some x else none := by
 unfold ptAt
 simp only [List.reverse_cons, List.reverse_nil, List.nil_append, List.find?_cons, List.find?_nil]
 by_cases h : x.point = n
 ·rw [if_pos h]; simp [h]
 ·rw [if_neg h]
  have : (x.point == (n : Int)) = false := by simpa using h
  rw [this]
theorem no_plain {who e : Ev} {es : List Ev} (hb : BegE who) (he : ∀ e ∈ es, OwnE who e) (hend : EndE who e) (n : Nat) (hn : n < (who :: (es ++ [e])).length) : plainB (evA (who :: (es ++ [e])) n) = false := by
 rw [evA_lt hn]
 have hm := List.getElem_mem hn
 generalize (who :: (es ++ [e]))[n] = y at hm
 unfold plainB
 rcases List.mem_cons.1 hm with rfl | hm
 ·simp [hb.1]
 ·rcases List.mem_append.1 hm with hm | hm
  ·rcases (he y hm).1 with h | h | h <;> simp [h]
  ·simp only [List.mem_singleton] at hm; subst hm
   rcases hend.1 with h | ⟨h, _⟩ <;> simp [h]
theorem mem_block {who e : Ev} {es : List Ev} (hb : BegE who) (he : ∀ e ∈ es, OwnE who e) (hend : EndE who e) (m : List Pr) (x : At) : ∀ n, n ≤ (who :: (es ++ [e])).length → memTo (who :: (es ++ [e])) [x] m n = if 0 ≤ x.point ∧ x.point < n ∧ x.com = true then putAll m x.stores else m
 | 0, _ => by rw [if_neg (by omega)]; rfl
 | n + 1, hn => by
  simp only [memTo]
  rw [mem_block hb he hend m x n (by omega)]
  unfold hapB
  rw [pt_one, no_plain hb he hend n (by omega)]
  by_cases h : x.point = n
  ·rw [if_pos h]
   simp only [Option.isSome_some, Bool.true_or, if_true, goesM]
   rw [show (if 0 ≤ x.point ∧ x.point < (n : Int) ∧ x.com = true then putAll m x.stores else m) = m from if_neg (by omega)]
   by_cases hc : x.com = true
   ·rw [if_pos hc, if_pos ⟨by omega, by omega, hc⟩]
   ·rw [if_neg hc, if_neg fun hh => hc hh.2.2]
  ·rw [if_neg h]
   simp only [Option.isSome_none, Bool.false_or, Bool.false_eq_true, if_false]
   by_cases hc : 0 ≤ x.point ∧ x.point < n ∧ x.com = true
   ·rw [if_pos hc, if_pos ⟨hc.1, by omega, hc.2.2⟩]
   ·rw [if_neg hc, if_neg fun hh => hc ⟨hh.1, by omega, hh.2.2⟩]
theorem bad_block {who e : Ev} {es : List Ev} (hb : BegE who) (he : ∀ e ∈ es, OwnE who e) (hend : EndE who e) (m : List Pr) (x : At) (n : Nat) (hn : n < (who :: (es ++ [e])).length) : badAt (who :: (es ++ [e])) [x] m n = (decide (x.point = n) && !(!x.odd && x.loads.all fun p => memF m p.1 == p.2)) := by
 unfold badAt hapB
 rw [pt_one, no_plain hb he hend n hn, mem_block hb he hend m x n (by omega)]
 by_cases h : x.point = n
 ·rw [if_pos h, if_neg (by omega)]
  simp only [Option.isSome_some, Bool.true_or, Bool.true_and, explB, h, decide_true]
 ·rw [if_neg h]
  simp [h]
structure Inv (ws own : List Int) (x : At) : Prop where
 len : own.length = ws.length
 odd : x.odd = false
 ld : ∀ p ∈ x.loads, 0 ≤ p.1 ∧ p.1 < ws.length ∧ p.2 = ws.getD p.1.toNat 0
 st : ∀ a : Int, 0 ≤ a → a < ws.length → own.getD a.toNat 0 = (valN x.stores a).getD (ws.getD a.toNat 0)
 rg : ∀ p ∈ x.stores, 0 ≤ p.1 ∧ p.1 < ws.length
 nd : (x.stores.map (·.1)).Nodup
theorem hear_body (x : At) (n : Int) (e : Ev) (h : e.kind ≠ 2) (h3 : e.kind ≠ 3) : (hearA x n e).loads = x.loads ∧ (hearA x n e).stores = x.stores ∧ (hearA x n e).odd = x.odd := by
 unfold hearA
 rw [if_neg h, if_neg h3]
 repeat' split
 all_goals exact ⟨rfl, rfl, rfl⟩
theorem hear_ldB (x : At) (n : Int) (e : Ev) (h : e.kind = 2) : (hearA x n e).loads = (loadA x e).loads ∧ (hearA x n e).stores = x.stores ∧ (hearA x n e).odd = (loadA x e).odd := by
 unfold hearA
 rw [if_pos h]
 have : (loadA x e).stores = x.stores := by
  unfold loadA
  repeat' split
  all_goals rfl
 split
 ·exact ⟨rfl, this, rfl⟩
 ·exact ⟨rfl, this, rfl⟩
theorem Inv.load {ws own : List Int} {x : At} {n : Int} {e : Ev} (i : Inv ws own x) (hk : e.kind = 2) (h0 : 0 ≤ e.addr) (h1 : e.addr < ws.length) (hv : e.value = own.getD e.addr.toNat 0) : Inv ws own (hearA x n e) := by
 obtain ⟨e1, e2, e3⟩ := hear_ldB x n e hk
 refine ⟨i.len, ?_, ?_, by rw [e2]; exact i.st, by rw [e2]; exact i.rg, by rw [e2]; exact i.nd⟩
 ·rw [e3]
  unfold loadA
  split
  ·exact i.odd
  ·rename_i hn
   split
   ·rename_i j hj
    obtain ⟨f1, f2, _⟩ := findN_some hj
    have hg : x.loads.getD j (0, 0) = x.loads[j] := by rw [List.getD_eq_getElem?_getD, List.getElem?_eq_getElem f1]; rfl
    have hm := i.ld _ (List.getElem_mem f1)
    rw [← hg] at hm
    have : (x.loads.getD j (0, 0)).2 = e.value := by
     rw [hm.2.2, f2, hv, i.st _ h0 h1]
     unfold valN; rw [hn]; rfl
    show (x.odd || !((x.loads.getD j (0, 0)).2 == e.value)) = false
    rw [this, i.odd]; simp
   ·exact i.odd
 ·rw [e1]
  unfold loadA
  split
  ·exact i.ld
  ·rename_i hn
   split
   ·exact i.ld
   ·intro p hp
    rcases List.mem_append.1 hp with h | h
    ·exact i.ld p h
    ·simp only [List.mem_singleton] at h; subst h
     refine ⟨h0, h1, ?_⟩
     show e.value = _
     rw [hv, i.st _ h0 h1]
     unfold valN; rw [hn]; rfl
theorem Inv.store {ws own : List Int} {x : At} {n : Int} {e : Ev} (i : Inv ws own x) (hk : e.kind = 3) (h0 : 0 ≤ e.addr) (h1 : e.addr < ws.length) : Inv ws (own.set e.addr.toNat e.value) (hearA x n e) := by
 have hh : hearA x n e = { x with touched := tch x.touched e.addr, stores := putS x.stores e.addr e.value } := by
  unfold hearA; rw [if_neg (by omega), if_pos hk]
 rw [hh]
 refine ⟨by rw [List.length_set]; exact i.len, i.odd, i.ld, fun a a0 a1 => ?_, putS_in (P := fun a => 0 ≤ a ∧ a < ws.length) i.rg ⟨h0, h1⟩, putS_keys i.nd⟩
 show _ = (valN (putS x.stores e.addr e.value) a).getD _
 rw [valN_put, List.getD_eq_getElem?_getD, List.getElem?_set]
 have hl := i.len
 by_cases h : a = e.addr
 ·subst h
  rw [if_pos rfl, if_pos rfl, if_pos (by omega)]; rfl
 ·rw [if_neg (by omega), if_neg h, ← List.getD_eq_getElem?_getD]
  exact i.st a a0 a1
theorem Inv.same {ws own : List Int} {x : At} {n : Int} {e : Ev} (i : Inv ws own x) (h : e.kind ≠ 2) (h3 : e.kind ≠ 3) : Inv ws own (hearA x n e) := by
 obtain ⟨e1, e2, e3⟩ := hear_body x n e h h3
 exact ⟨i.len, by rw [e3]; exact i.odd, by rw [e1]; exact i.ld, by rw [e2]; exact i.st, by rw [e2]; exact i.rg, by rw [e2]; exact i.nd⟩
def Odd (ws : List Int) (x : At) : Prop := x.odd = true ∨ ∃ p ∈ x.loads, 0 ≤ p.1 ∧ p.1 < ws.length ∧ p.2 ≠ ws.getD p.1.toNat 0
theorem Odd.hear {ws : List Int} {x : At} (h : Odd ws x) (n : Int) (e : Ev) : Odd ws (hearA x n e) := by
 by_cases h2 : e.kind = 2
 ·obtain ⟨e1, _, e3⟩ := hear_ldB x n e h2
  unfold Odd
  rw [e1, e3]
  unfold loadA
  split
  ·exact h
  ·split
   ·rcases h with h | h
    ·left; simp [h]
    ·exact .inr h
   ·rcases h with h | ⟨p, h1, h2⟩
    ·exact .inl h
    ·exact .inr ⟨p, List.mem_append_left _ h1, h2⟩
 ·by_cases h3 : e.kind = 3
  ·have hh : hearA x n e = { x with touched := tch x.touched e.addr, stores := putS x.stores e.addr e.value } := by
    unfold hearA; rw [if_neg h2, if_pos h3]
   rw [hh]; exact h
  ·obtain ⟨e1, _, e3⟩ := hear_body x n e h2 h3
   unfold Odd; rw [e1, e3]; exact h
theorem Inv.turn {ws own : List Int} {x : At} {n : Int} {e : Ev} (i : Inv ws own x) (hk : e.kind = 2) (h0 : 0 ≤ e.addr) (h1 : e.addr < ws.length) (hn : findN x.stores e.addr = none) (hv : e.value ≠ ws.getD e.addr.toNat 0) : Odd ws (hearA x n e) := by
 obtain ⟨e1, _, e3⟩ := hear_ldB x n e hk
 unfold Odd
 rw [e1, e3]
 unfold loadA
 rw [hn]
 simp only
 split
 ·rename_i j hj
  obtain ⟨f1, f2, _⟩ := findN_some hj
  have hg : x.loads.getD j (0, 0) = x.loads[j] := by rw [List.getD_eq_getElem?_getD, List.getElem?_eq_getElem f1]; rfl
  have hm := i.ld _ (List.getElem_mem f1)
  rw [← hg] at hm
  left
  have : ((x.loads.getD j (0, 0)).2 == e.value) = false := by
   rw [beq_eq_false_iff_ne, hm.2.2, f2]; exact fun h => hv h.symm
  simp only [this]; simp
 ·right
  exact ⟨(e.addr, e.value), by simp, h0, h1, hv⟩
theorem hear_point (x : At) (n : Int) (e : Ev) : (hearA x n e).point = if e.kind = 2 ∧ hardB x = true ∨ e.kind = 4 ∧ hardB x = false ∨ e.kind = 5 ∧ hardB x = true then n else x.point := by
 unfold hearA
 have hl : (loadA x e).point = x.point := by
  unfold loadA
  repeat' split
  all_goals rfl
 by_cases h2 : e.kind = 2
 ·rw [if_pos h2]
  by_cases hh : hardB x = true
  ·rw [if_pos hh, if_pos (.inl ⟨h2, hh⟩)]
  ·rw [if_neg hh, if_neg (by rw [h2]; simp [hh]), hl]
 rw [if_neg h2]
 by_cases h3 : e.kind = 3
 ·rw [if_pos h3, if_neg (by omega)]
 rw [if_neg h3]
 by_cases h4 : e.kind = 4
 ·rw [if_pos h4]
  by_cases hh : hardB x = true
  ·rw [if_pos hh, if_neg (by rw [h4]; simp [hh])]
  ·rw [if_neg hh, if_pos (.inr (.inl ⟨h4, by simpa using hh⟩))]
 rw [if_neg h4]
 by_cases h5 : e.kind = 5
 ·rw [if_pos h5]
  by_cases hh : hardB x = true
  ·rw [if_pos hh, if_pos (.inr (.inr ⟨h5, hh⟩))]
  ·rw [if_neg hh, if_neg (by rw [h5]; simp [hh])]
 rw [if_neg h5, show (if e.kind = 2 ∧ hardB x = true ∨ e.kind = 4 ∧ hardB x = false ∨ e.kind = 5 ∧ hardB x = true then n else x.point) = x.point from if_neg (by rintro (h | h | h); exact h2 h.1; exact h4 h.1; exact h5 h.1)]
 split <;> rfl
theorem hear_com (x : At) (n : Int) (e : Ev) : (hearA x n e).com = if e.kind = 5 then true else x.com := by
 unfold hearA
 have hl : (loadA x e).com = x.com := by
  unfold loadA
  repeat' split
  all_goals rfl
 repeat' split
 all_goals first | rfl | omega | exact hl
theorem xN_hard (who : Ev) (es : List Ev) (k : Nat) : hardB (xN who es k) = (who.lane == 1 || who.lane == 2) := by
 unfold hardB; rw [(xN_ids who es k).2.2.2]
theorem xN_com {who : Ev} {es : List Ev} (he : ∀ e ∈ es, OwnE who e) : ∀ k, k ≤ es.length → (xN who es k).com = false
 | 0, _ => rfl
 | k + 1, hk => by
  show (hearA _ _ _).com = false
  have hd : es.getD k default = es[k] := by rw [List.getD_eq_getElem?_getD, List.getElem?_eq_getElem (by omega)]; rfl
  have ho := (he _ (List.getElem_mem (show k < es.length by omega))).1
  rw [hear_com, hd, if_neg (by omega)]
  exact xN_com he k (by omega)
theorem xN_point {who : Ev} {es : List Ev} : ∀ k, k ≤ es.length → -1 ≤ (xN who es k).point ∧ (xN who es k).point < ((k + 1 : Nat) : Int) ∧ ∀ j, j < k → ((es.getD j default).kind = 2 ∧ hardB (newA who 0) = true ∨ (es.getD j default).kind = 4 ∧ hardB (newA who 0) = false) → 0 ≤ (xN who es k).point
 | 0, _ => ⟨by simp [xN, newA], by simp [xN, newA], fun j hj => by omega⟩
 | k + 1, hk => by
  obtain ⟨h1, h2, h3⟩ := xN_point (who := who) (es := es) k (by omega)
  have hh : hardB (xN who es k) = hardB (newA who 0) := by rw [xN_hard]; rfl
  have hp := hear_point (xN who es k) ((k + 1 : Nat) : Int) (es.getD k default)
  rw [hh] at hp
  show -1 ≤ (hearA _ _ _).point ∧ (hearA _ _ _).point < _ ∧ _
  rw [hp]
  refine ⟨by split <;> omega, by split <;> omega, fun j hj hq => ?_⟩
  show 0 ≤ (hearA _ _ _).point
  rw [hp]
  split
  ·omega
  ·rename_i hno
   by_cases e : j = k
   ·subst e
    exact absurd (hq.elim .inl fun q => .inr (.inl q)) hno
   ·exact h3 j (by omega) hq
theorem xEnd_com {who e : Ev} {es : List Ev} (he : ∀ e ∈ es, OwnE who e) : (xEnd who es e).com = decide (e.kind = 5) := by
 unfold xEnd; rw [hear_com, xN_com he _ (Nat.le_refl _)]
 split <;> simp [*]
theorem xEnd_point {who e : Ev} {es : List Ev} : -1 ≤ (xEnd who es e).point ∧ (xEnd who es e).point < ((es.length + 2 : Nat) : Int) ∧ ((e.kind = 5 ∧ hardB (newA who 0) = true ∨ ∃ j, j < es.length ∧ ((es.getD j default).kind = 2 ∧ hardB (newA who 0) = true ∨ (es.getD j default).kind = 4 ∧ hardB (newA who 0) = false)) → 0 ≤ (xEnd who es e).point) := by
 obtain ⟨h1, h2, h3⟩ := xN_point (who := who) (es := es) es.length (Nat.le_refl _)
 have hh : hardB (xN who es es.length) = hardB (newA who 0) := by rw [xN_hard]; rfl
 have hp := hear_point (xN who es es.length) ((es.length + 1 : Nat) : Int) e
 rw [hh] at hp
 unfold xEnd
 rw [hp]
 refine ⟨by split <;> omega, by split <;> omega, fun hq => ?_⟩
 split
 ·omega
 ·rename_i hno
  rcases hq with hq | ⟨j, hj, hq⟩
  ·exact absurd (.inr (.inr hq)) hno
  ·exact h3 j hj hq
end Go.Hs
namespace Go.Hs
structure Bop where
 addr : Int
 st : Bool
 val : Int
deriving Inhabited
structure Blk where
 core : Int
 lane : Int
 ops : List Bop
 ab : Bool
deriving Inhabited
def whoE (b : Blk) (n : Nat) : Ev := ⟨1, 0, b.core, n, 0, b.lane, 0, 0, 0⟩
def opE (who : Ev) (own : List Int) (o : Bop) : Ev := if o.st then { who with kind := 3, addr := o.addr, value := o.val } else { who with kind := 2, addr := o.addr, value := own.getD o.addr.toNat 0 }
def opW (own : List Int) (o : Bop) : List Int := if o.st then own.set o.addr.toNat o.val else own
def opsN (who : Ev) (ops : List Bop) (ws : List Int) : Nat → Option (List Ev × List Int)
 | 0 => some ([], ws)
 | k + 1 => match opsN who ops ws k with
  | none => none
  | some s => if (ops.getD k default).addr < 0 ∨ (ops.getD k default).addr ≥ ws.length then none else some (s.1 ++ [opE who s.2 (ops.getD k default)], opW s.2 (ops.getD k default))
def ptE (who : Ev) : Ev := { who with kind := 4 }
def endE (who : Ev) (ab : Bool) : Ev := if ab then { who with kind := 6, code := 5 } else { who with kind := 5 }
def blockH (who : Ev) (es : List Ev) (ab : Bool) : List Ev := who :: ((es ++ [ptE who]) ++ [endE who ab])
def cntN (l : List Blk) (c : Int) : Nat → Nat
 | 0 => 0
 | i + 1 => if (l.getD i default).core = c then cntN l c i + 1 else cntN l c i
def badBlk (b : Blk) : Prop := b.core < 0 ∨ b.core > 3 ∨ b.lane < 1 ∨ b.lane > 4 ∨ b.ops.length > 40
instance (b : Blk) : Decidable (badBlk b) := by unfold badBlk; infer_instance
def serN (l : List Blk) (ws : List Int) : Nat → Option (List Ev × List Int)
 | 0 => some ([], ws)
 | i + 1 => match serN l ws i with
  | none => none
  | some s => if badBlk (l.getD i default) then none else
   match opsN (whoE (l.getD i default) (cntN l (l.getD i default).core i)) (l.getD i default).ops s.2 (l.getD i default).ops.length with
   | none => none
   | some r => some (s.1 ++ blockH (whoE (l.getD i default) (cntN l (l.getD i default).core i)) r.1 (l.getD i default).ab, if (l.getD i default).ab then s.2 else r.2)
theorem xN_congr {who : Ev} {es es' : List Ev} : ∀ {k : Nat}, (∀ j, j < k → es.getD j default = es'.getD j default) → xN who es k = xN who es' k
 | 0, _ => rfl
 | k + 1, h => by
  show hearA _ _ _ = hearA _ _ _
  rw [xN_congr fun j hj => h j (by omega), h k (by omega)]
theorem opE_kind (who : Ev) (own : List Int) (o : Bop) : (opE who own o).kind = if o.st then 3 else 2 := by unfold opE; split <;> rfl
theorem opE_addr (who : Ev) (own : List Int) (o : Bop) : (opE who own o).addr = o.addr := by unfold opE; split <;> rfl
theorem opE_own {who : Ev} {own : List Int} {o : Bop} (h : 0 ≤ o.addr) : OwnE who (opE who own o) := by
 refine ⟨by rw [opE_kind]; split <;> simp, ?_, ?_, ?_, by rw [opE_addr]; exact h⟩
 all_goals unfold opE; split <;> rfl
theorem opsN_none {who : Ev} {ops : List Bop} {ws : List Int} {k m : Nat} (h : opsN who ops ws k = none) (hm : k ≤ m) : opsN who ops ws m = none := by
 induction m with
 | zero => have : k = 0 := by omega
           subst this; exact h
 | succ m ih =>
  by_cases e : k = m + 1
  ·rw [← e]; exact h
  ·simp only [opsN]; rw [ih (by omega)]
theorem getD_app_left {α : Type} {l r : List α} {j : Nat} {d : α} (h : j < l.length) : (l ++ r).getD j d = l.getD j d := by
 rw [List.getD_eq_getElem?_getD, List.getD_eq_getElem?_getD, List.getElem?_append_left h]
theorem getD_app_at {α : Type} {l r : List α} {a d : α} : (l ++ a :: r).getD l.length d = a := by
 rw [List.getD_eq_getElem?_getD, List.getElem?_append_right (Nat.le_refl _)]; simp
structure OpsOk (who : Ev) (ws : List Int) (es : List Ev) (own : List Int) (k : Nat) : Prop where
 len : es.length = k
 mine : ∀ e ∈ es, OwnE who e ∧ e.addr < ws.length ∧ (e.kind = 2 ∨ e.kind = 3)
 inv : ∀ tail, Inv ws own (xN who (es ++ tail) k)
theorem ops_ok {who : Ev} {ops : List Bop} {ws : List Int} : ∀ {k : Nat} {es : List Ev} {own : List Int}, opsN who ops ws k = some (es, own) → OpsOk who ws es own k
 | 0, es, own, h => by
  simp only [opsN] at h; injection h with h; injection h with h1 h2; subst h1; subst h2
  exact ⟨rfl, by simp, fun _ => ⟨rfl, rfl, by simp [xN, newA], fun a _ _ => by simp [xN, newA, valN, findN], by simp [xN, newA], by simp [xN, newA]⟩⟩
 | k + 1, es, own, h => by
  simp only [opsN] at h
  cases hq : opsN who ops ws k with
  | none => rw [hq] at h; cases h
  | some s =>
   obtain ⟨es0, own0⟩ := s
   rw [hq] at h
   simp only at h
   split at h
   ·cases h
   ·rename_i ha
    injection h with h; injection h with h1 h2
    have ok := ops_ok hq
    generalize ops.getD k default = o at ha h1 h2
    subst h1; subst h2
    refine ⟨by rw [List.length_append, ok.len]; rfl, fun e he => ?_, fun tail => ?_⟩
    ·rcases List.mem_append.1 he with h3 | h3
     ·exact ok.mine e h3
     ·simp only [List.mem_singleton] at h3; subst h3
      refine ⟨opE_own (by omega), by rw [opE_addr]; omega, ?_⟩
      rw [opE_kind]; split <;> simp
    ·have i0 := ok.inv (opE who own0 o :: tail)
     have hx : (es0 ++ [opE who own0 o]) ++ tail = es0 ++ opE who own0 o :: tail := by simp
     rw [hx]
     show Inv ws _ (hearA _ _ _)
     have hd : (es0 ++ opE who own0 o :: tail).getD k default = opE who own0 o := by rw [← ok.len]; exact getD_app_at
     rw [hd]
     unfold opW
     cases hs : o.st with
     | true =>
      have := i0.store (n := ((k + 1 : Nat) : Int)) (e := opE who own0 o) (by rw [opE_kind, hs]; rfl) (by rw [opE_addr]; omega) (by rw [opE_addr]; omega)
      rw [opE_addr, show (opE who own0 o).value = o.val by unfold opE; rw [hs]; rfl] at this
      exact this
     | false =>
      exact i0.load (by rw [opE_kind, hs]; rfl) (by rw [opE_addr]; omega) (by rw [opE_addr]; omega) (by rw [opE_addr]; unfold opE; rw [hs]; rfl)
theorem beg_who {b : Blk} {n : Nat} (h : ¬ badBlk b) : BegE (whoE b n) := by
 unfold badBlk at h
 refine ⟨rfl, ?_, ?_, ?_, ?_, ?_, ?_⟩
 all_goals (simp only [whoE]; omega)
theorem end_who (who : Ev) (ab : Bool) : EndE who (endE who ab) := by
 unfold endE
 cases ab
 ·exact ⟨.inl rfl, rfl, rfl, rfl⟩
 ·exact ⟨.inr ⟨rfl, by show (1 : Int) ≤ 5; decide, by show (5 : Int) ≤ 8; decide⟩, rfl, rfl, rfl⟩
theorem pt_own {who : Ev} (h : 0 ≤ who.addr) : OwnE who (ptE who) := ⟨.inr (.inr rfl), rfl, rfl, rfl, h⟩
theorem mine_pt {who : Ev} {es : List Ev} (h0 : 0 ≤ who.addr) (h : ∀ e ∈ es, OwnE who e) : ∀ e ∈ es ++ [ptE who], OwnE who e := by
 intro e he
 rcases List.mem_append.1 he with h1 | h1
 ·exact h e h1
 ·simp only [List.mem_singleton] at h1; subst h1; exact pt_own h0
theorem begL_in {ws : List Int} {a : Int} (h0 : 0 ≤ a) (h1 : a < ws.length) : memF (begL ws) a = ws.getD a.toNat 0 := by
 rw [begL_F]; unfold firF; rw [if_pos ⟨h0, h1⟩]
theorem begL_out {ws : List Int} {a : Int} (h : ¬ (0 ≤ a ∧ a < ws.length)) : memF (begL ws) a = 0 := by
 rw [begL_F]; unfold firF; rw [if_neg h]
theorem block_good {who : Ev} {ws own : List Int} {es : List Ev} {ab : Bool} {k : Nat} (hb : BegE who) (h0 : who.addr = 0) (ok : OpsOk who ws es own k) (m : List Pr) (hm : SameM m (begL ws)) :
  ∃ x, splitL (blockH who es ab) = some [x] ∧ overL [x] = true ∧ SameM (memTo (blockH who es ab) [x] m (blockH who es ab).length) (begL (if ab then ws else own)) ∧ ∀ n, n < (blockH who es ab).length → badAt (blockH who es ab) [x] m n = false := by
 have hmine : ∀ e ∈ es ++ [ptE who], OwnE who e := mine_pt (by omega) fun e he => (ok.mine e he).1
 obtain ⟨h1, h2⟩ := split_block hb hmine (end_who who ab)
 have hi : Inv ws own (xEnd who (es ++ [ptE who]) (endE who ab)) := by
  unfold xEnd
  have i0 := ok.inv [ptE who]
  have i1 : Inv ws own (xN who (es ++ [ptE who]) (es ++ [ptE who]).length) := by
   rw [List.length_append, ok.len]
   show Inv ws own (hearA _ _ _)
   have hd : (es ++ [ptE who]).getD k default = ptE who := by rw [← ok.len]; exact getD_app_at
   rw [hd]
   exact i0.same (by simp [ptE]) (by simp [ptE])
  exact i1.same (by unfold endE; split <;> simp) (by unfold endE; split <;> simp)
 have hpt := xEnd_point (who := who) (es := es ++ [ptE who]) (e := endE who ab)
 have hcm := xEnd_com (e := endE who ab) hmine
 have hlen : (blockH who es ab).length = (es ++ [ptE who]).length + 2 := by unfold blockH; simp
 generalize xEnd who (es ++ [ptE who]) (endE who ab) = x at h1 h2 hi hpt hcm
 refine ⟨x, h1, by unfold overL; simp; omega, ?_, fun n hn => ?_⟩
 ·have hmb : memTo (blockH who es ab) [x] m (blockH who es ab).length = _ := mem_block hb hmine (end_who who ab) m x _ (Nat.le_refl _)
  rw [hmb]
  have hcom : x.com = !ab := by rw [hcm]; unfold endE; cases ab <;> rfl
  cases ab with
  | true =>
   rw [if_neg (by rw [hcom]; simp), if_pos rfl]; exact hm
  | false =>
   have hp0 : 0 ≤ x.point := by
    refine hpt.2.2 ?_
    by_cases hh : hardB (newA who 0) = true
    ·exact .inl ⟨rfl, hh⟩
    ·refine .inr ⟨es.length, by simp, .inr ⟨?_, by simpa using hh⟩⟩
     rw [getD_app_at]; rfl
   rw [if_pos ⟨hp0, by show x.point < ((blockH who es false).length : Int); rw [hlen]; exact hpt.2.1, hcom⟩, if_neg (by simp)]
   intro a
   rw [memF_val _ _ _ hi.nd, hm a]
   by_cases ha : 0 ≤ a ∧ a < ws.length
   ·rw [begL_in ha.1 ha.2, begL_in ha.1 (by rw [hi.len]; exact ha.2), hi.st a ha.1 ha.2]
   ·rw [begL_out ha, begL_out (by rw [hi.len]; exact ha)]
    have : valN x.stores a = none := by
     unfold valN
     cases hf : findN x.stores a with
     | none => rfl
     | some j =>
      obtain ⟨f1, f2, _⟩ := findN_some hf
      have := hi.rg _ (List.getElem_mem f1)
      rw [List.getD_eq_getElem?_getD, List.getElem?_eq_getElem f1, Option.getD_some] at f2
      rw [f2] at this
      exact absurd this ha
    rw [this]; rfl
 ·show badAt (who :: ((es ++ [ptE who]) ++ [endE who ab])) [x] m n = false
  rw [bad_block hb hmine (end_who who ab) m x n hn]
  have : (!x.odd && x.loads.all fun p => memF m p.1 == p.2) = true := by
   rw [hi.odd]
   simp only [Bool.not_false, Bool.true_and, List.all_eq_true, beq_iff_eq]
   intro p hp
   obtain ⟨l1, l2, l3⟩ := hi.ld p hp
   rw [hm, begL_in l1 l2, l3]
  rw [this]; simp
theorem block_odd {who : Ev} {ws own : List Int} {es : List Ev} {ab : Bool} {k q : Nat} {v : Int} (hb : BegE who) (h0 : who.addr = 0) {ops : List Bop} (ho : opsN who ops ws k = some (es, own)) (hq : q < es.length) (h2 : (es.getD q default).kind = 2) (hv : v ≠ (es.getD q default).value)
  (hno : ∀ j, j < q → (es.getD j default).kind = 3 → (es.getD j default).addr ≠ (es.getD q default).addr) (m : List Pr) (hm : SameM m (begL ws)) :
  ∃ x, splitL (blockH who (es.set q { es.getD q default with value := v }) ab) = some [x] ∧ overL [x] = true ∧ ∃ n, n < (blockH who (es.set q { es.getD q default with value := v }) ab).length ∧ badAt (blockH who (es.set q { es.getD q default with value := v }) ab) [x] m n = true := by
 have ok := ops_ok ho
 have hes : ∀ j, j < es.length → es.getD j default = es[j]! := fun j hj => by rw [List.getD_eq_getElem?_getD]; simp [List.getElem?_eq_getElem hj, hj]
 have hqd : es.getD q default = es[q] := by rw [List.getD_eq_getElem?_getD, List.getElem?_eq_getElem hq]; rfl
 have hqm := ok.mine es[q] (List.getElem_mem hq)
 rw [hqd] at h2 hv hno ⊢
 generalize he' : ({ es[q] with value := v } : Ev) = e'
 have e1 : e'.kind = 2 := by rw [← he']; exact h2
 have e2 : e'.addr = es[q].addr := by rw [← he']
 have e3 : e'.value = v := by rw [← he']
 have hown' : OwnE who e' := by rw [← he']; exact hqm.1
 have hget : ∀ j, j ≠ q → (es.set q e').getD j default = es.getD j default := fun j hj => by
  rw [List.getD_eq_getElem?_getD, List.getElem?_set, if_neg (fun e => hj e.symm), ← List.getD_eq_getElem?_getD]
 have hgq : (es.set q e').getD q default = e' := by
  rw [List.getD_eq_getElem?_getD, List.getElem?_set, if_pos rfl, if_pos hq]; rfl
 have hmine : ∀ e ∈ es.set q e' ++ [ptE who], OwnE who e := mine_pt (by omega) fun e he => by
  rcases List.mem_or_eq_of_mem_set he with h | h
  ·exact (ok.mine e h).1
  ·rw [h]; exact hown'
 obtain ⟨h3, h4⟩ := split_block hb hmine (end_who who ab)
 -- the state ahead of the turned load
 have hpre : ∃ own0, Inv ws own0 (xN who (es.set q e' ++ [ptE who]) q) ∧ es[q].value = own0.getD es[q].addr.toNat 0 := by
  have hk : es.length = k := ok.len
  -- the operations up to q
  have step : ∀ d k es own, opsN who ops ws k = some (es, own) → ∀ q (hq : q < es.length), k = q + 1 + d → (es[q]).kind = 2 → ∃ es0 own0, opsN who ops ws q = some (es0, own0) ∧ es.take q = es0 ∧ es[q].value = own0.getD es[q].addr.toNat 0 := by
   intro d
   induction d with
   | zero =>
    intro k es own hk q hq hkq hkind
    subst hkq
    simp only [opsN, Nat.add_zero] at hk
    cases hr : opsN who ops ws q with
    | none => rw [hr] at hk; cases hk
    | some s =>
     rw [hr] at hk
     simp only at hk
     split at hk
     ·cases hk
     ·injection hk with hk; injection hk with k1 k2
      have hl := (ops_ok (es := s.1) (own := s.2) hr).len
      subst k1
      refine ⟨s.1, s.2, rfl, by rw [List.take_append_of_le_length (by omega), List.take_of_length_le (by omega)], ?_⟩
      have hat : (s.1 ++ [opE who s.2 (ops.getD q default)])[q] = opE who s.2 (ops.getD q default) := by
       rw [List.getElem_append_right (by omega)]; simp
      rw [hat] at hkind ⊢
      rw [opE_kind] at hkind
      rw [opE_addr]
      unfold opE
      cases hs : (ops.getD q default).st with
      | true => rw [hs] at hkind; simp at hkind
      | false => rfl
   | succ d ih =>
    intro k es own hk q hq hkq hkind
    subst hkq
    rw [show q + 1 + (d + 1) = (q + 1 + d) + 1 by omega] at hk
    simp only [opsN] at hk
    cases hr : opsN who ops ws (q + 1 + d) with
    | none => rw [hr] at hk; cases hk
    | some s =>
     rw [hr] at hk
     simp only at hk
     split at hk
     ·cases hk
     ·injection hk with hk; injection hk with k1 k2
      have hl := (ops_ok (es := s.1) (own := s.2) hr).len
      subst k1
      have hq' : q < s.1.length := by omega
      have hat : (s.1 ++ [opE who s.2 (ops.getD (q + 1 + d) default)])[q] = s.1[q] := List.getElem_append_left hq'
      rw [hat] at hkind ⊢
      obtain ⟨es0, own0, i1, i2, i3⟩ := ih _ s.1 s.2 hr q hq' rfl hkind
      exact ⟨es0, own0, i1, by rw [List.take_append_of_le_length (by omega)]; exact i2, i3⟩
  obtain ⟨es0, own0, i1, i2, i3⟩ := step (k - (q + 1)) k es own ho q hq (by omega) h2
  refine ⟨own0, ?_, i3⟩
  have ok0 := ops_ok i1
  have := ok0.inv []
  rw [List.append_nil] at this
  rwa [xN_congr (es' := es0) fun j hj => ?_]
  rw [getD_app_left (by rw [List.length_set]; omega), hget j (by omega), ← i2, List.getD_eq_getElem?_getD, List.getD_eq_getElem?_getD, List.getElem?_take, if_pos hj]
 obtain ⟨own0, hinv, hval⟩ := hpre
 have hst : findN (xN who (es.set q e' ++ [ptE who]) q).stores e'.addr = none := by
  have : ∀ i, i ≤ q → InR (· ≠ e'.addr) (xN who (es.set q e' ++ [ptE who]) i) := by
   intro i
   induction i with
   | zero => intro _ p hp; simp [xN, newA] at hp
   | succ i ih =>
    intro hi
    refine (ih (by omega)).hear fun h3 => ?_
    rw [getD_app_left (by rw [List.length_set]; omega), hget i (by omega)] at h3 ⊢
    rw [e2]
    exact hno i (by omega) h3
  have hin := this q (Nat.le_refl _)
  cases hf : findN (xN who (es.set q e' ++ [ptE who]) q).stores e'.addr with
  | none => rfl
  | some j =>
   obtain ⟨f1, f2, _⟩ := findN_some hf
   rw [List.getD_eq_getElem?_getD, List.getElem?_eq_getElem f1, Option.getD_some] at f2
   exact absurd f2 (hin _ (List.getElem_mem f1))
 have hws : es[q].value = ws.getD es[q].addr.toNat 0 := by
  rw [hval, hinv.st _ hqm.1.2.2.2.2 hqm.2.1]
  rw [e2] at hst
  unfold valN; rw [hst]; rfl
 have hodd : ∀ i, q + 1 + i ≤ (es.set q e' ++ [ptE who]).length → Odd ws (xN who (es.set q e' ++ [ptE who]) (q + 1 + i)) := by
  intro i
  induction i with
  | zero =>
   intro _
   show Odd ws (hearA _ _ _)
   rw [getD_app_left (by rw [List.length_set]; omega), hgq]
   exact hinv.turn e1 (by rw [e2]; exact hqm.1.2.2.2.2) (by rw [e2]; exact hqm.2.1) hst (by rw [e3, e2, ← hws]; exact hv)
  | succ i ih =>
   intro hi
   exact (ih (by omega)).hear _ _
 have hx : Odd ws (xEnd who (es.set q e' ++ [ptE who]) (endE who ab)) := by
  unfold xEnd
  have := hodd ((es.set q e' ++ [ptE who]).length - (q + 1)) (by rw [List.length_append, List.length_set]; simp; omega)
  rw [show q + 1 + ((es.set q e' ++ [ptE who]).length - (q + 1)) = (es.set q e' ++ [ptE who]).length by rw [List.length_append, List.length_set]; simp; omega] at this
  exact this.hear _ _
 have hpt := xEnd_point (who := who) (es := es.set q e' ++ [ptE who]) (e := endE who ab)
 have hp0 : 0 ≤ (xEnd who (es.set q e' ++ [ptE who]) (endE who ab)).point := by
  refine hpt.2.2 (.inr ?_)
  by_cases hh : hardB (newA who 0) = true
  ·refine ⟨q, by rw [List.length_append, List.length_set]; omega, .inl ⟨?_, hh⟩⟩
   rw [getD_app_left (by rw [List.length_set]; omega), hgq]; exact e1
  ·refine ⟨(es.set q e').length, by simp, .inr ⟨?_, by simpa using hh⟩⟩
   rw [getD_app_at]; rfl
 have hlen : (blockH who (es.set q e') ab).length = (es.set q e' ++ [ptE who]).length + 2 := by unfold blockH; simp
 generalize xEnd who (es.set q e' ++ [ptE who]) (endE who ab) = x at h3 h4 hx hpt hp0
 refine ⟨x, h3, by unfold overL; simp; omega, x.point.toNat, by rw [hlen]; have := hpt.2.1; omega, ?_⟩
 show badAt (who :: ((es.set q e' ++ [ptE who]) ++ [endE who ab])) [x] m x.point.toNat = true
 rw [bad_block hb hmine (end_who who ab) m x _ (by show _ < (blockH who (es.set q e') ab).length; rw [hlen]; have := hpt.2.1; omega)]
 rw [Int.toNat_of_nonneg hp0]
 simp only [decide_true, Bool.true_and, Bool.not_eq_true', Bool.and_eq_false_iff, Bool.not_eq_false']
 rcases hx with hx | ⟨p, p1, p2, p3, p4⟩
 ·exact .inl hx
 ·right
  rw [List.all_eq_false]
  refine ⟨p, p1, ?_⟩
  rw [hm, begL_in p2 p3]
  simpa using fun h => p4 h.symm
end Go.Hs
namespace Go.Hs
theorem serN_none {l : List Blk} {ws : List Int} {k m : Nat} (h : serN l ws k = none) (hm : k ≤ m) : serN l ws m = none := by
 induction m with
 | zero => have : k = 0 := by omega
           subst this; exact h
 | succ m ih =>
  by_cases e : k = m + 1
  ·rw [← e]; exact h
  ·simp only [serN]; rw [ih (by omega)]
structure Good (ws0 ws : List Int) (h : List Ev) (la : List At) : Prop where
 sp : splitL h = some la
 ov : overL la = true
 mem : SameM (memTo h la (begL ws0) h.length) (begL ws)
 ok : ∀ n, n < h.length → badAt h la (begL ws0) n = false
theorem overL_up (k : Nat) (l : List At) (h : overL l = true) : overL (l.map (upA k)) = true := by
 unfold overL at h ⊢
 rw [List.all_map, List.all_eq_true]
 intro x hx
 have := List.all_eq_true.1 h x hx
 simp only [decide_eq_true_eq] at this
 simp only [Function.comp, decide_eq_true_eq]
 show 0 ≤ upN k x.to
 unfold upN; rw [if_neg (by omega)]; omega
theorem overL_app {l r : List At} (h : overL l = true) (k : overL r = true) : overL (l ++ r) = true := by
 unfold overL at h k ⊢; rw [List.all_append, h, k]; rfl
theorem Good.app {ws0 ws ws2 : List Int} {h b : List Ev} {la lb : List At} (g : Good ws0 ws h la) (hb : splitL b = some lb) (ho : overL lb = true) (hm : SameM (memTo b lb (memTo h la (begL ws0) h.length) b.length) (begL ws2))
  (hk : ∀ n, n < b.length → badAt b lb (memTo h la (begL ws0) h.length) n = false) : Good ws0 ws2 (h ++ b) (la ++ lb.map (upA h.length)) := by
 have y := lay_of g.sp hb
 refine ⟨by rw [split_two g.sp g.ov, hb]; rfl, overL_app g.ov (overL_up _ _ ho), ?_, fun n hn => ?_⟩
 ·rw [List.length_append, mem_right y]; exact hm
 ·by_cases hl : n < h.length
  ·rw [bad_left y _ hl]; exact g.ok n hl
  ·rw [List.length_append] at hn
   obtain ⟨j, rfl⟩ : ∃ j, n = h.length + j := ⟨n - h.length, by omega⟩
   rw [bad_right y]; exact hk j (by omega)
theorem ser_len {l : List Blk} {ws0 : List Int} : ∀ {i : Nat} {h : List Ev} {ws : List Int}, serN l ws0 i = some (h, ws) → ws.length = ws0.length
 | 0, h, ws, hs => by simp only [serN] at hs; injection hs with hs; injection hs with _ h2; rw [← h2]
 | i + 1, h, ws, hs => by
  simp only [serN] at hs
  cases hq : serN l ws0 i with
  | none => rw [hq] at hs; cases hs
  | some s =>
   rw [hq] at hs
   simp only at hs
   split at hs
   ·cases hs
   ·cases hr : opsN (whoE (l.getD i default) (cntN l (l.getD i default).core i)) (l.getD i default).ops s.2 (l.getD i default).ops.length with
    | none => rw [hr] at hs; cases hs
    | some r =>
     rw [hr] at hs; injection hs with hs; injection hs with _ h2
     have := ser_len (h := s.1) (ws := s.2) hq
     have := ((ops_ok (es := r.1) (own := r.2) hr).inv []).len
     rw [← h2]; split <;> omega
theorem ser_good {l : List Blk} {ws0 : List Int} : ∀ {i : Nat} {h : List Ev} {ws : List Int}, serN l ws0 i = some (h, ws) → ∃ la, Good ws0 ws h la
 | 0, h, ws, hs => by
  simp only [serN] at hs; injection hs with hs; injection hs with h1 h2; subst h1; subst h2
  exact ⟨[], rfl, rfl, fun _ => rfl, fun n hn => by simp at hn⟩
 | i + 1, h, ws, hs => by
  simp only [serN] at hs
  cases hq : serN l ws0 i with
  | none => rw [hq] at hs; cases hs
  | some s =>
   obtain ⟨h0, w0⟩ := s
   rw [hq] at hs
   simp only at hs
   split at hs
   ·cases hs
   ·rename_i hb
    obtain ⟨la, g⟩ := ser_good hq
    generalize l.getD i default = b at hs hb
    generalize cntN l b.core i = c at hs
    cases hr : opsN (whoE b c) b.ops w0 b.ops.length with
    | none => rw [hr] at hs; cases hs
    | some r =>
     obtain ⟨es, own⟩ := r
     rw [hr] at hs; injection hs with hs; injection hs with h1 h2; subst h1; subst h2
     obtain ⟨x, x1, x2, x3, x4⟩ := block_good (ab := b.ab) (beg_who (n := c) hb) rfl (ops_ok hr) _ g.mem
     exact ⟨_, g.app x1 x2 x3 x4⟩
structure Wrong (ws0 : List Int) (h : List Ev) (la : List At) : Prop where
 sp : splitL h = some la
 ov : overL la = true
 bad : ∃ n, n < h.length ∧ badAt h la (begL ws0) n = true
theorem Wrong.app {ws0 : List Int} {h b : List Ev} {la lb : List At} (g : Wrong ws0 h la) (hb : splitL b = some lb) (ho : overL lb = true) : Wrong ws0 (h ++ b) (la ++ lb.map (upA h.length)) := by
 have y := lay_of g.sp hb
 obtain ⟨n, n1, n2⟩ := g.bad
 exact ⟨by rw [split_two g.sp g.ov, hb]; rfl, overL_app g.ov (overL_up _ _ ho), n, by rw [List.length_append]; omega, by rw [bad_left y _ n1]; exact n2⟩
theorem Good.wrong {ws0 ws : List Int} {h b : List Ev} {la lb : List At} (g : Good ws0 ws h la) (hb : splitL b = some lb) (ho : overL lb = true) (hk : ∃ n, n < b.length ∧ badAt b lb (memTo h la (begL ws0) h.length) n = true) : Wrong ws0 (h ++ b) (la ++ lb.map (upA h.length)) := by
 have y := lay_of g.sp hb
 obtain ⟨n, n1, n2⟩ := hk
 exact ⟨by rw [split_two g.sp g.ov, hb]; rfl, overL_app g.ov (overL_up _ _ ho), h.length + n, by rw [List.length_append]; omega, by rw [bad_right y]; exact n2⟩
def NoSt (h : List Ev) (t : Nat) : Prop := ∀ j, j < t → (∀ k, j ≤ k → k < t → (evA h k).kind ≠ 1) → (evA h j).kind = 3 → (evA h j).addr ≠ (evA h t).addr
theorem ser_wrong {l : List Blk} {ws0 : List Int} : ∀ {i : Nat} {h : List Ev} {ws : List Int}, serN l ws0 i = some (h, ws) → ∀ (t : Nat) (v : Int), t < h.length → (evA h t).kind = 2 → v ≠ (evA h t).value → NoSt h t → ∃ la, Wrong ws0 (h.set t { evA h t with value := v }) la
 | 0, h, ws, hs, t, v, ht, _, _, _ => by
  simp only [serN] at hs; injection hs with hs; injection hs with h1 h2; subst h1; simp at ht
 | i + 1, h, ws, hs, t, v, ht, hk, hv, hno => by
  simp only [serN] at hs
  cases hq : serN l ws0 i with
  | none => rw [hq] at hs; cases hs
  | some s =>
   obtain ⟨h0, w0⟩ := s
   rw [hq] at hs
   simp only at hs
   split at hs
   ·cases hs
   ·rename_i hb
    obtain ⟨la, g⟩ := ser_good hq
    have ih := ser_wrong (i := i) hq
    generalize l.getD i default = b at hs hb
    generalize cntN l b.core i = c at hs
    cases hr : opsN (whoE b c) b.ops w0 b.ops.length with
    | none => rw [hr] at hs; cases hs
    | some r =>
     obtain ⟨es, own⟩ := r
     rw [hr] at hs; injection hs with hs; injection hs with h1 h2
     have h1 : h0 ++ blockH (whoE b c) es b.ab = h := h1
     subst h1
     by_cases hl : t < h0.length
     ·-- in what stands ahead
      rw [evA_left hl] at hk hv ⊢
      have hno0 : NoSt h0 t := fun j hj hh h3 => by
       have := hno j hj (fun k k1 k2 => by rw [evA_left (by omega)]; exact hh k k1 k2) (by rw [evA_left (by omega)]; exact h3)
       rwa [evA_left (by omega), evA_left hl] at this
      obtain ⟨la', g'⟩ := ih t v hl hk hv hno0
      obtain ⟨x, x1, x2, _, _⟩ := block_good (ab := b.ab) (beg_who (n := c) hb) rfl (ops_ok hr) _ g.mem
      rw [List.set_append_left _ _ hl]
      have hw := g'.app x1 x2
      exact ⟨_, hw⟩
     ·obtain ⟨q, rfl⟩ : ∃ q, t = h0.length + q := ⟨t - h0.length, by omega⟩
      rw [evA_right] at hk hv ⊢
      rw [List.set_append_right _ _ (by omega), show h0.length + q - h0.length = q by omega]
      have hql : q < (blockH (whoE b c) es b.ab).length := by rw [List.length_append] at ht; omega
      have hblen : (blockH (whoE b c) es b.ab).length = es.length + 3 := by unfold blockH; simp
      cases q with
      | zero =>
       rw [show evA (blockH (whoE b c) es b.ab) 0 = whoE b c from rfl] at hk
       exact absurd hk (by show ¬ (1 : Int) = 2; decide)
      | succ q =>
       have hqe : q < es.length := by
        refine Decidable.byContradiction fun hge => ?_
        by_cases e1 : q = es.length
        ·subst e1
         have : evA (blockH (whoE b c) es b.ab) (es.length + 1) = ptE (whoE b c) := by
          unfold evA blockH
          rw [List.getD_cons_succ, getD_app_left (by simp)]
          exact getD_app_at
         rw [this] at hk
         exact absurd hk (by show ¬ (4 : Int) = 2; decide)
        ·have e2 : q = es.length + 1 := by omega
         subst e2
         have : evA (blockH (whoE b c) es b.ab) (es.length + 1 + 1) = endE (whoE b c) b.ab := by
          unfold evA blockH
          rw [List.getD_cons_succ]
          have := getD_app_at (l := es ++ [ptE (whoE b c)]) (r := []) (a := endE (whoE b c) b.ab) (d := default)
          rwa [show (es ++ [ptE (whoE b c)]).length = es.length + 1 by simp] at this
         rw [this] at hk
         have hne : ∀ (w : Ev) (ab : Bool), (endE w ab).kind ≠ 2 := fun w ab => by
          cases ab
          ·show ¬ (5 : Int) = 2; decide
          ·show ¬ (6 : Int) = 2; decide
         exact absurd hk (hne _ _)
       have hat : ∀ j, j < es.length → evA (blockH (whoE b c) es b.ab) (j + 1) = es.getD j default := fun j hj => by
        unfold evA blockH
        rw [List.getD_cons_succ, List.append_assoc, getD_app_left hj]
       rw [hat q hqe] at hk hv ⊢
       have hset : (blockH (whoE b c) es b.ab).set (q + 1) { es.getD q default with value := v } = blockH (whoE b c) (es.set q { es.getD q default with value := v }) b.ab := by
        unfold blockH
        rw [List.set_cons_succ, List.append_assoc, List.append_assoc, List.set_append_left _ _ hqe]
       rw [hset]
       obtain ⟨x, x1, x2, x3⟩ := block_odd (ab := b.ab) (beg_who (n := c) hb) rfl hr hqe hk hv (fun j hj h3 => by
        have := hno (h0.length + (j + 1)) (by omega) (fun k k1 k2 => by
         obtain ⟨m, rfl⟩ : ∃ m, k = h0.length + (m + 1) := ⟨k - h0.length - 1, by omega⟩
         rw [evA_right, hat m (by omega)]
         have := ((ops_ok hr).mine (es.getD m default) (by rw [List.getD_eq_getElem?_getD, List.getElem?_eq_getElem (by omega)]; exact List.getElem_mem _)).2.2
         omega) (by rw [evA_right, hat j (by omega)]; exact h3)
        rwa [evA_right, evA_right, hat j (by omega), hat q hqe] at this) _ g.mem
       exact ⟨_, g.wrong x1 x2 x3⟩
end Go.Hs
