/- The engine, part 11: small laws that walks use again and again. -/
import Derived.Test.YtlbiogokpadaoaaGreatDoorSxEval
import Derived.Laws.BitsLemmas
set_option linter.unusedSimpArgs false
set_option linter.unusedVariables false
set_option linter.unnecessarySimpa false
namespace Go.Sx

theorem leH_nil (m : Nat) (H : List SO) : leH m H [] = True := by cases H <;> rfl
theorem leH_cons (m : Nat) (e e' : SO) (H H' : List SO) : leH m (e :: H) (e' :: H') = ((e = e' ∧ scpO m e' = true) ∧ leH m H H') := rfl
theorem leF_nil (m : Nat) (F : List (Nat × SV)) : leF m F [] = True := rfl

theorem loop_go {C : Cx} {E : Env} {c : XC} {k : List KI} {s : SS} {α : Type} (φ : α → Prop) (Ex : α → Env) (S : α → SS) (μ : α → Nat) (hnt : ∀ x, (Ex x).nt = E.nt)
    (start : ∀ a W, Rep E s a W → ∃ x, φ x ∧ Rep (Ex x) (S x) a W)
    (round : ∀ x, φ x → ∀ I : Act → World → Prop, (∀ y, φ y → μ y < μ x → ∀ a W, Rep (Ex y) (S y) a W → I a W) → G C (Ex x) (.code c :: .lend I :: k) (S x)) :
    G C E (.code (.loop c) :: k) s :=
  loop_rule φ Ex S μ hnt start fun x hx => round x hx _ fun y hy hm a W rep => ⟨y, hy, rep, hm⟩

theorem calls_go {P : Program} {f : FuncId} {fn : Func} {xc : XC} {args : List Value} {w : World} {R : Value → World → Prop} {keep : List Nat} {tab : Nat → XC} {svs : List SV} {nt m : Nat}
    (hf : P.funcs[f]? = some fn) (hc : cmpF P fn = some (expand tab m xc)) (hn : fn.ntmps = nt) (hlen : args.length ≤ nt) (ha : IsL [] svs args)
    (h : ∀ R' : Value → World → Prop, (∀ v W, R v W → R' v W) → G (cxOf P fn keep tab R') ⟨w, w.heap.size, [], nt, []⟩ [.code xc] { F := numF 0 svs, H := [] }) : CallsV P f args w R :=
  calls_X hf hc hn hlen ha (h R fun _ _ h => h)

theorem Rep.torow {E : Env} {s : SS} {a : Act} {W : World} (rep : Rep E s a W) (i : Nat) {g : Nat} {t : TypeId} {l : List SV} {xs : List Value} (hi : nth s.H i = some (.cells g t l)) (hx : denL s.H l = some xs) :
    Rep E { F := s.F, H := setn s.H i (.row g t xs) } a W := by
  have x : HExt s.H (setn s.H i (.row g t xs)) := HExt.setBlk hi rfl rfl
  refine rep.ext x (rep.heap.set hi x (fun g' hg => .inl hg) (fun _ _ _ => rfl) (Nat.le_refl _) rfl rfl rfl ?_)
  obtain ⟨c, hc, hL⟩ := rep.heap.ents i _ hi
  show W.heap[g]? = _
  rw [show W.heap[g]? = some (Obj.cells c t (0, 0)) from hc, ← denL_is _ hx hL]

theorem ArOk.to {a b r : Int} (h : a + b = r) (h1 : -9223372036854775808 ≤ r) (h2 : r ≤ 9223372036854775807) : ArOk .add .i64 a b r := by
  subst h; exact ArOk.add64 h1 h2
theorem ArOk.toSub {a b r : Int} (h : a - b = r) (h1 : -9223372036854775808 ≤ r) (h2 : r ≤ 9223372036854775807) : ArOk .sub .i64 a b r := by
  subst h; exact ArOk.sub64 h1 h2
theorem DivOk.quo64 {a b : Int} (h0 : 0 ≤ a) (h1 : a ≤ 9223372036854775807) (hb : 0 < b) : DivOk .quo .i64 a b (a / b) := by
  refine ⟨by omega, ?_⟩
  show a / b = IntKind.i64.wrap (a.tdiv b)
  rw [Int.tdiv_eq_ediv_of_nonneg h0, IntKind.wrap_i64]
  have h2 := Int.ediv_nonneg h0 (Int.le_of_lt hb)
  have h3 := Int.ediv_le_self b h0
  omega
theorem DivOk.rem_nn {k : IntKind} {a b : Int} (h0 : 0 ≤ a) (hb : 0 < b) : DivOk .rem k a b (a % b) := by
  refine ⟨by omega, ?_⟩
  show a % b = a.tmod b
  rw [Int.tmod_eq_emod_of_nonneg h0]
theorem ShOk.shr {k : IntKind} {a b : Int} (d : Int) (hb : 0 ≤ b) (hd : (2 : Int) ^ (min b.toNat k.bits) = d) : ShOk .shr k a b (a / d) := by
  refine ⟨hb, ?_⟩
  show a / d = a.fdiv (2 ^ (min b.toNat k.bits))
  rw [hd, Int.fdiv_eq_ediv_of_nonneg]
  rw [← hd]; exact Int.le_of_lt (Int.pow_pos (by decide))
theorem ConvOk.u8 {a : Int} (h0 : 0 ≤ a) (h1 : a ≤ 255) : ConvOk .u8 a a := by show a = _; rw [IntKind.wrap_u8]; omega
theorem ConvOk.u8' (a : Int) : ConvOk .u8 a (a % 256) := (IntKind.wrap_u8 a).symm
theorem ConvOk.i64 {a : Int} (h0 : -9223372036854775808 ≤ a) (h1 : a ≤ 9223372036854775807) : ConvOk .i64 a a := by show a = _; rw [IntKind.wrap_i64]; omega
theorem ConvOk.u32 {a : Int} (h0 : 0 ≤ a) (h1 : a ≤ 4294967295) : ConvOk .u32 a a := by show a = _; rw [IntKind.wrap_u32]; omega
theorem ConvOk.u32' (a : Int) : ConvOk .u32 a (a % 4294967296) := (IntKind.wrap_u32 a).symm
theorem ConvOk.i32 {a : Int} (h0 : -2147483648 ≤ a) (h1 : a ≤ 2147483647) : ConvOk .i32 a a := by show a = _; rw [IntKind.wrap_i32]; omega
theorem ConvOk.i32' (a : Int) : ConvOk .i32 a ((a + 2147483648) % 4294967296 - 2147483648) := (IntKind.wrap_i32 a).symm
theorem ConvOk.u64' (a : Int) : ConvOk .u64 a (a % 18446744073709551616) := by show _ = _; simp [IntKind.wrap, IntKind.bits, IntKind.signed]

def RowAt (w : World) (A : Option Addr) (xs : List Value) : Prop := ∀ j u, xs[j]? = some u → ∃ a, A = some a ∧ a.block < w.heap.size ∧ w.cell? (a.add j) = some u

theorem add_block (a : Addr) (j : Nat) : (a.add j).block = a.block := by unfold Addr.add; split <;> rfl
theorem cell_flat (w : World) (g j : Nat) {cur : Array Value} {t : TypeId} {z : Nat × Nat} (h : w.heap[g]? = some (.cells cur t z)) : w.cell? ((⟨g, 0, none⟩ : Addr).add j) = cur[j]? := by
  unfold World.cell?
  rw [add_block, h]
  have e : ((⟨g, 0, none⟩ : Addr).add j).spot = none ∧ ((⟨g, 0, none⟩ : Addr).add j).off = j := by
    unfold Addr.add
    split
    · rename_i e; exact ⟨rfl, e.symm⟩
    · exact ⟨rfl, by simp⟩
  simp only [e.1, e.2, Option.isSome_none, Bool.false_eq_true, if_false]
theorem RowAt.cell {w : World} {A : Option Addr} {xs : List Value} {nt : Nat} (h : RowAt w A xs) {j : Nat} {u : Value} (hj : xs[j]? = some u) : CellAt ⟨w, w.heap.size, [], nt, []⟩ A j u := by
  obtain ⟨a, h1, h2, h3⟩ := h j u hj
  exact ⟨a, h1, ⟨h2, by simp⟩, h3⟩
theorem RowAt.isSome {w : World} {A : Option Addr} {xs : List Value} (h : RowAt w A xs) {j : Nat} (hj : j < xs.length) : A.isSome = true := by
  obtain ⟨a, h1, _⟩ := h j _ (List.getElem?_eq_getElem hj)
  simp [h1]
theorem cell_keep {w w' : World} (k : Fresh w w') {a : Addr} (ha : a.block < w.heap.size) : w'.cell? a = w.cell? a := by
  unfold World.cell?
  rw [k.block _ ha]
theorem RowAt.keep {w w' : World} {A : Option Addr} {xs : List Value} (h : RowAt w A xs) (k : Fresh w w') : RowAt w' A xs := by
  intro j u hj
  obtain ⟨a, h1, h2, h3⟩ := h j u hj
  refine ⟨a, h1, Nat.lt_of_lt_of_le h2 k.size, ?_⟩
  rw [cell_keep k (by rw [add_block]; exact h2)]; exact h3
theorem RowAt.pre {w : World} {A : Option Addr} {xs ys : List Value} (h : RowAt w A (xs ++ ys)) : RowAt w A xs := by
  intro j u hj
  refine h j u ?_
  rw [List.getElem?_append_left (List.getElem?_eq_some_iff.1 hj).1]; exact hj
theorem RowAt.rd {w : World} {A : Option Addr} {xs : List Value} {nt : Nat} (h : RowAt w A xs) (h1 : ∀ u ∈ xs, u.oneCell' = true) : RdOld ⟨w, w.heap.size, [], nt, []⟩ A xs.length xs := by
  refine ⟨rfl, fun hp => ?_, h1⟩
  obtain ⟨a, ha, hb, _⟩ := h 0 _ (List.getElem?_eq_getElem hp)
  refine ⟨a, ha, ⟨hb, by simp⟩, fun j u hj => ?_⟩
  obtain ⟨a', ha', _, hc⟩ := h j u hj
  rw [ha] at ha'; injection ha' with ha'; subst ha'; exact hc

theorem RowAt.of_own {w : World} {N : Nat} {t : TypeId} {sz n : Nat} {v : Value} {xs : List Value} {A : Option Addr} {c : Nat} (h : w.ownsRow N t sz v n xs) (hv : v = .slice A n c) : RowAt w A xs := by
  obtain ⟨hl, h | ⟨g, cap, cur, h1, h2, h3, h4, h5, h6, h7⟩⟩ := h
  · intro j u hj
    have := (List.getElem?_eq_some_iff.1 hj).1
    rw [hl, h.2] at this; simp at this
  · intro j u hj
    rw [hv] at h1; injection h1 with h1; subst h1
    have hlt := (Array.getElem?_eq_some_iff.1 h3).1
    refine ⟨_, rfl, hlt, ?_⟩
    have hj' := (List.getElem?_eq_some_iff.1 hj).1
    rw [cell_flat w g j h3]
    rw [← h7, List.getElem?_take] at hj
    split at hj
    · simpa using hj
    · cases hj

theorem HeapOk.owns {b : World} {N nt : Nat} {mk : List Nat} {H : List SO} {W : World} (h : HeapOk ⟨b, N, [], nt, mk⟩ H W) {i : Nat} {t : TypeId} {ver sz n c : Nat} {A : Option Addr} {xs : List Value} (hi : nth H i = some (.own t ver sz A n c xs)) :
    W.ownsRow N t sz (.slice A n c) n xs := by
  obtain ⟨hl, ⟨rfl, rfl, rfl⟩ | ⟨g, cur, rfl, hg, h1, h2, h3, h4⟩⟩ := h.ents i _ hi
  · exact ⟨hl, .inl ⟨rfl, rfl⟩⟩
  · refine ⟨hl, .inr ⟨g, c, cur, rfl, ?_, hg, h1, h2, h3, h4⟩⟩
    have := (h.fresh i _ g hi rfl).2
    simp only [Env.old, List.not_mem_nil, not_false_eq_true, and_true, Nat.not_lt] at this
    exact this

theorem HeapOk.fresh' {b : World} {nt : Nat} {mk : List Nat} {H : List SO} {W : World} (h : HeapOk ⟨b, b.heap.size, [], nt, mk⟩ H W) : Fresh b W :=
  h.keep.mono fun j hj => ⟨hj, by simp⟩

theorem HeapOk.gain {E : Env} {H : List SO} {W W' : World} {t : TypeId} {sz n : Nat} {xs : List Value} {v : Value} (hW : HeapOk E H W) (hr : W'.ownsRow W.heap.size t sz v n xs) (hk : Fresh W W') :
    ∃ A c, v = .slice A n c ∧ HExt H (H ++ [.own t 0 sz A n c xs]) ∧ HeapOk E (H ++ [.own t 0 sz A n c xs]) W' ∧ Is (H ++ [.own t 0 sz A n c xs]) (.own H.length 0) v := by
  obtain ⟨hl, hr1⟩ := hr
  rcases hr1 with ⟨rfl, rfl⟩ | ⟨g, cap, cur, rfl, hge, hg, h1, h2, h3, h4⟩
  · refine ⟨none, 0, rfl, HExt.push _ _, ?_, ?_⟩
    · exact (hW.freshK hk).pushG (row := none) (Nat.le_refl _) rfl rfl rfl (fun _ _ _ => rfl) (fun _ e => by cases e) (fun g hg => by simp [SO.fp] at hg) ⟨hl, .inl ⟨rfl, rfl, rfl⟩⟩
    · simp only [Is]; exact ⟨t, 0, sz, none, 0, 0, xs, by rw [nth_eq]; simp, Nat.le_refl _, ⟨_, _, _, rfl⟩, fun _ => rfl⟩
  · refine ⟨some ⟨g, 0, none⟩, cap, rfl, HExt.push _ _, ?_, ?_⟩
    · refine hW.pushG (row := none) hk.size hk.os hk.tape hk.output (fun j hj _ => hk.block j hj) (fun _ e => by cases e) (fun g' hg' => ?_) ⟨hl, .inr ⟨g, cur, rfl, hg, h1, h2, h3, h4⟩⟩
      simp [SO.fp] at hg'; subst hg'
      exact ⟨.inr hge, (Array.getElem?_eq_some_iff.1 hg).1⟩
    · simp only [Is]; exact ⟨t, 0, sz, some ⟨g, 0, none⟩, n, cap, xs, by rw [nth_eq]; simp, Nat.le_refl _, ⟨_, _, _, rfl⟩, fun _ => rfl⟩

theorem HeapOk.cap {E : Env} {H : List SO} {W : World} (h : HeapOk E H W) {i : Nat} {t : TypeId} {ver sz n c : Nat} {A : Option Addr} {xs : List Value} (hi : nth H i = some (.own t ver sz A n c xs)) : n ≤ c := by
  rcases (h.ents i _ hi).2 with ⟨_, h1, h2⟩ | ⟨_, _, _, _, h1, _⟩ <;> omega

theorem HeapOk.rowAt {b : World} {N nt : Nat} {mk : List Nat} {H : List SO} {W : World} (h : HeapOk ⟨b, N, [], nt, mk⟩ H W) {i : Nat} {t : TypeId} {ver sz n c : Nat} {A : Option Addr} {xs : List Value} (hi : nth H i = some (.own t ver sz A n c xs)) : RowAt W A xs :=
  .of_own (h.owns hi) rfl

theorem flat_len {α : Type} {f : α → List Value} {sz : Nat} (hf : ∀ x, (f x).length = sz) (l : List α) : (l.flatMap f).length = l.length * sz := by
  induction l with
  | nil => simp
  | cons x l ih => simp only [List.flatMap_cons, List.length_append, hf, ih, List.length_cons]; rw [Nat.add_mul]; omega
theorem flat_get {α : Type} {f : α → List Value} {sz : Nat} (hf : ∀ x, (f x).length = sz) : ∀ (l : List α) {i k : Nat} (hi : i < l.length), k < sz → (l.flatMap f)[i * sz + k]? = (f l[i])[k]?
  | x :: l, 0, k, _, hk => by
    simp only [List.flatMap_cons, Nat.zero_mul, Nat.zero_add, List.getElem_cons_zero]
    rw [List.getElem?_append_left (by rw [hf]; exact hk)]
  | x :: l, i + 1, k, hi, hk => by
    simp only [List.flatMap_cons, List.getElem_cons_succ]
    rw [List.getElem?_append_right (by rw [hf, Nat.add_mul]; omega), hf]
    rw [← flat_get hf l (by simpa using hi) hk]
    congr 1; rw [Nat.add_mul]; omega
end Go.Sx
