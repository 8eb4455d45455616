/- CacheSets, CacheBack: play. -/
import Derived.Test.YtimmobbginjkfaaCaW3
import Derived.Test.YtimmobbginjkfaaCaW4
import Derived.Test.YtimmobbginjkfaaCaW7
import Derived.Test.YtimmobbginjkfaaCaCodeL
set_option linter.unusedSimpArgs false
set_option linter.unusedVariables false
set_option linter.unnecessarySimpa false
namespace Go.Proofs.Ytimmobbginjkfaa
open Go Go.Sx Go.Ca
set_option maxRecDepth 100000
theorem call_ca {C : Cx} {E : Env} {d : Option Nat} {f : FuncId} {args : List Operand} {l : List XS} {k : List KI} {F : List (Nat × SV)} {vs : List Value} (gc gs : Nat) (c c' : Ca) (val : Value) (sv : SV) (r : List SO) (hP : C.P = Try.prog) (hargs : denL (caF gc gs c ++ r) (evL F args) = some vs)
  (hc : ∀ W, HeapOk E (caF gc gs c ++ r) W → HeapOk ⟨W, W.heap.size, fps (caF gc gs c), 0, []⟩ (caF gc gs c) W → CallsV Try.prog f vs W fun v W' => v = val ∧ HeapOk ⟨W, W.heap.size, fps (caF gc gs c), 0, []⟩ (caF gc gs c') W') (hsv : ∀ H, Is H sv val)
  (next : G C E (.ops l :: k) { F := putF F d sv, H := caF gc gs c' ++ r }) :
  G C E (.ops ({ dst := d, guard := none, i := .call f args } :: l) :: k) { F := F, H := caF gc gs c ++ r } := by
 refine call_lent (H1 := caF gc gs c) (r := r) (fun v H1' => v = val ∧ H1' = caF gc gs c') (caF_scp gc gs c) hargs (fun W hW hh => ?_) fun v H1' hv => ?_
 ·rw [hP]
  exact (hc W hW hh).mono fun v W' hv => ⟨_, ⟨hv.1, rfl⟩, caF_ext gc gs c c', rfl, hv.2⟩
 obtain ⟨rfl, rfl⟩ := hv
 exact ⟨sv, hsv _, next⟩
structure Sp where
 kind : Int
 n : Int
 state : Int
 write : Bool
 v : Int
 l : Nat → Int
def spV (s : Sp) : List Value := [.int .i64 s.kind, .int .i64 s.n, .int .i64 s.state, .bool s.write, .int .u64 s.v, .int .u64 (s.l 0), .int .u64 (s.l 1), .int .u64 (s.l 2), .int .u64 (s.l 3), .int .u64 (s.l 4), .int .u64 (s.l 5), .int .u64 (s.l 6), .int .u64 (s.l 7)]
def cellsS (l : List Sp) : List Value := l.flatMap spV
theorem cellsS_len (l : List Sp) : (cellsS l).length = l.length * 13 := flat_len (f := spV) (sz := 13) (fun _ => rfl) l
theorem cellsS_get (l : List Sp) {i k : Nat} (hi : i < l.length) (hk : k < 13) : (cellsS l)[i * 13 + k]? = (spV l[i])[k]? := flat_get (f := spV) (sz := 13) (fun _ => rfl) l hi hk
def stepC (c : Ca) (x : Sp) : Ca :=
 if x.kind = 0 then fillC c x.n x.state x.l else if x.kind = 1 then wordC c x.n else if x.kind = 2 then putC c x.n x.v else if x.kind = 3 then markC c x.n x.write
 else if x.kind = 4 then demC c x.n else if x.kind = 5 then proC c x.n x.l else if x.kind = 6 then dropC c x.n else if x.kind = 7 then comC c else if x.kind = 8 then disC c else c
structure Like (c c' : Ca) : Prop where
 s : c'.sets = c.sets
 w : c'.ways = c.ways
 u : c'.uses = c.uses ∨ c'.uses = c.uses + 1
theorem Like.rfl' (c : Ca) : Like c c := ⟨rfl, rfl, .inl rfl⟩
theorem Like.ok {c c' : Ca} (h : Like c c') (ok : CaOk c) (hu : c.uses + 1 ≤ 1000000) : CaOk c' := by
 have := ok.u0
 have := ok.u1
 refine ⟨h.s ▸ ok.s1, h.s ▸ ok.s8, h.w ▸ ok.w1, h.w ▸ ok.w4, ?_, ?_⟩
 ·rcases h.u with e | e <;> omega
 ·rcases h.u with e | e <;> omega
theorem fill_like (c : Ca) (a b : Int) (d : Nat → Int) : Like c (fillC c a b d) := by
 unfold fillC
 repeat' split
 all_goals first | exact ⟨rfl, rfl, .inl rfl⟩ | exact ⟨rfl, rfl, .inr rfl⟩
theorem word_like (c : Ca) (a : Int) : Like c (wordC c a) := by
 unfold wordC
 repeat' split
 all_goals first | exact ⟨rfl, rfl, .inl rfl⟩ | exact ⟨rfl, rfl, .inr rfl⟩
theorem put_like (c : Ca) (a v : Int) : Like c (putC c a v) := by
 unfold putC
 repeat' split
 all_goals first | exact ⟨rfl, rfl, .inl rfl⟩ | exact ⟨rfl, rfl, .inr rfl⟩
theorem mark_like (c : Ca) (a : Int) (w : Bool) : Like c (markC c a w) := by
 unfold markC
 repeat' split
 all_goals exact ⟨rfl, rfl, .inl rfl⟩
theorem dem_like (c : Ca) (a : Int) : Like c (demC c a) := by
 unfold demC
 split
 all_goals exact ⟨rfl, rfl, .inl rfl⟩
theorem pro_like (c : Ca) (a : Int) (d : Nat → Int) : Like c (proC c a d) := by
 unfold proC
 split
 all_goals exact ⟨rfl, rfl, .inl rfl⟩
theorem drop_like (c : Ca) (a : Int) : Like c (dropC c a) := by
 unfold dropC
 split
 all_goals exact ⟨rfl, rfl, .inl rfl⟩
theorem com_like (c : Ca) : Like c (comC c) := ⟨rfl, rfl, .inl rfl⟩
theorem dis_like (c : Ca) : Like c (disC c) := ⟨rfl, rfl, .inl rfl⟩
theorem step_like (c : Ca) (x : Sp) : Like c (stepC c x) := by
 unfold stepC
 repeat' split
 all_goals first | exact fill_like _ _ _ _ | exact word_like _ _ | exact put_like _ _ _ | exact mark_like _ _ _ | exact dem_like _ _ | exact pro_like _ _ _ | exact drop_like _ _ | exact com_like _ | exact dis_like _ | exact Like.rfl' _
def playC (c : Ca) (l : List Sp) : Ca := l.foldl stepC c
theorem play_snoc (c : Ca) (l : List Sp) (x : Sp) : playC c (l ++ [x]) = stepC (playC c l) x := by unfold playC; rw [List.foldl_append]; rfl
end Go.Proofs.Ytimmobbginjkfaa
