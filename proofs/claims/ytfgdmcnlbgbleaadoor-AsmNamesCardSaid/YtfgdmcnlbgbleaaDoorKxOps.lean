/- The runner, part 2: the bridge to the engine's laws; operations on plain values. -/
import Derived.Test.YtfgdmcnlbgbleaaDoorKxCore
set_option linter.unusedSimpArgs false
set_option linter.unusedVariables false
set_option linter.unnecessarySimpa false
namespace Go.Kx
open Go
open Go.Sx (Grow Keep XC XS XI XK CK NK cmp theOrder Jump Ran SV SO kEq cmpK pureK readK xk xk_sound ResK ResP ResR Res svc nth takeL dropL)

def kc : Value → KV
  | .agg cs => .a (cs.toList.map .v)
  | .tuple _ => .u
  | .pointer (some _) => .u
  | v => .v v
theorem kc_is {h : KH} {γ : Nat → Gh} (v : Value) : Is h γ (kc v) v := by
  cases v with
  | agg cs => simp only [kc, Is]; exact ⟨cs.toList, IsL.vals _, by simp⟩
  | tuple => simp [kc, Is]
  | pointer a => cases a <;> simp [kc, Is]
  | _ => simp [kc, Is]
def ev (F : Tr KV) : Operand → KV
  | .tmp t => fg F t
  | .const v => kc v
  | .global g => .v (.pointer (some ⟨g, 0, none⟩))
  | .func f => .v (.func (.func f) #[] #[])

section
variable {E : KE} {P : Program} {nt : Nat} {mk : List Nat} {F : Tr KV} {h : KH} {γ : Nat → Gh} {a : Act} {W : World}

theorem Rep.ev (r : Rep E P nt mk F h γ a W) : ∀ x, Is h γ (Kx.ev F x) (a.eval x)
  | .tmp t => r.frame t
  | .const v => kc_is v
  | .global g => by simp [Kx.ev, Is, Act.eval]
  | .func f => by simp [Kx.ev, Is, Act.eval]
def evL (F : Tr KV) : List Operand → List KV
  | [] => []
  | x :: l => ev F x :: evL F l
theorem Rep.evL (r : Rep E P nt mk F h γ a W) : ∀ l, IsL h γ (Kx.evL F l) (l.map a.eval)
  | [] => IsL.nil
  | x :: l => IsL.cons (r.ev x) (Rep.evL r l)
end

def svOf : Value → SV
  | .pointer p => .adr p 0
  | .agg cs => .agg (cs.toList.map .val)
  | .tuple vs => .tup (vs.toList.map .val)
  | .func f x y => .fn f (x.toList.map .val) (y.toList.map .val)
  | v => .val v
theorem isL_val (H : List SO) : ∀ l : List Value, Sx.IsL H (l.map .val) l
  | [] => by simp [Sx.IsL]
  | v :: l => by simp only [List.map_cons, Sx.IsL]; exact ⟨v, l, by simp [Sx.Is], isL_val H l, rfl⟩
theorem svOf_is (H : List SO) (v : Value) : Sx.Is H (svOf v) v := by
  cases v with
  | pointer p => cases p <;> simp [svOf, Sx.Is, Addr.add]
  | agg cs => simp only [svOf, Sx.Is]; exact ⟨_, isL_val H _, by simp⟩
  | tuple cs => simp only [svOf, Sx.Is]; exact ⟨_, isL_val H _, by simp⟩
  | func f x y => simp only [svOf, Sx.Is]; exact ⟨_, _, isL_val H _, isL_val H _, by simp⟩
  | _ => simp [svOf, Sx.Is]

def allF : Nat → List Value → List (Nat × SV)
  | _, [] => []
  | n, v :: l => (n, svOf v) :: allF (n + 1) l
theorem lk_allF : ∀ (l : List Value) (n d : Nat), (d < n → Sx.lk (allF n l) d = .unk) ∧ (∀ v, n ≤ d → l[d - n]? = some v → Sx.lk (allF n l) d = svOf v) ∧ (n ≤ d → l[d - n]? = none → Sx.lk (allF n l) d = .unk)
  | [], n, d => ⟨fun _ => rfl, fun v _ h => by simp at h, fun _ _ => rfl⟩
  | v :: l, n, d => by
    obtain ⟨h1, h2, h3⟩ := lk_allF l (n + 1) d
    refine ⟨fun h => ?_, fun s h hs => ?_, fun h hs => ?_⟩
    · simp only [allF, Sx.lk]
      have : (n == d) = false := by simp; omega
      rw [this]; exact h1 (by omega)
    · simp only [allF, Sx.lk]
      by_cases e : n = d
      · subst e; simp at hs; simp [hs]
      · have : (n == d) = false := by simpa using e
        rw [this]
        have e2 : d - n = (d - (n + 1)) + 1 := by omega
        rw [e2, List.getElem?_cons_succ] at hs
        exact h2 s (by omega) hs
    · simp only [allF, Sx.lk]
      by_cases e : n = d
      · subst e; simp at hs
      · have : (n == d) = false := by simpa using e
        rw [this]
        have e2 : d - n = (d - (n + 1)) + 1 := by omega
        rw [e2, List.getElem?_cons_succ] at hs
        exact h3 (by omega) hs

def EL (W : World) (nt : Nat) (ds : List Nat) (st : List Nat) : Sx.Env := ⟨W, W.heap.size, st, nt, ds⟩
def SL (a : Act) (H : List SO) : Sx.SS := ⟨allF 0 a.tmps.toList, H⟩

theorem lk_SL (a : Act) (d : Nat) : (∀ v, a.tmps[d]? = some v → Sx.lk (allF 0 a.tmps.toList) d = svOf v) ∧ (a.tmps[d]? = none → Sx.lk (allF 0 a.tmps.toList) d = .unk) := by
  obtain ⟨_, h2, h3⟩ := lk_allF a.tmps.toList 0 d
  exact ⟨fun v hv => h2 v (Nat.zero_le _) (by simpa using hv), fun hn => h3 (Nat.zero_le _) (by simpa using hn)⟩

theorem frame_SL (a : Act) (H : List SO) (d : Nat) : Sx.Is H (Sx.lk (allF 0 a.tmps.toList) d) (a.tmps.getD d undef) := by
  obtain ⟨h1, h2⟩ := lk_SL a d
  cases ht : a.tmps[d]? with
  | none => rw [h2 ht]; simp [Sx.Is]
  | some v => rw [h1 v ht, Array.getD_eq_getD_getElem?, ht]; exact svOf_is H v

section
variable {E : KE} {P : Program} {nt : Nat} {mk : List Nat} {F : Tr KV} {h : KH} {γ : Nat → Gh} {a : Act} {W : World}

theorem rep_SL (r : Rep E P nt mk F h γ a W) : Sx.Rep (EL W nt (mk.map fun i => (γ i).g) []) (SL a []) a W :=
  ⟨r.size, fun d => frame_SL a [] d, by rw [r.defers]; simp [EL], Sx.heapOk_nil (Nat.le_refl _) _ _ _⟩

theorem rep_S1 (r : Rep E P nt mk F h γ a W) {g : Nat} {e : SO} (he : e.fp = some g) (hg : g < W.heap.size) (hok : Sx.EntryOk [e] (fun g => W.heap[g]?) e) {d : Nat} {sv : SV} (hs : ∀ v, a.tmps.getD d undef = v → Sx.Is [e] sv v) :
    Sx.Rep (EL W nt (mk.map fun i => (γ i).g) [g]) ⟨(d, sv) :: allF 0 a.tmps.toList, [e]⟩ a W := by
  refine ⟨r.size, fun n => ?_, by rw [r.defers]; simp [EL], ⟨Keep.refl _ _, Nat.le_refl _, fun i e' hi => ?_, fun i e' g' hi hg' => ?_, fun i j e1 e2 g' hij h1 h2 => ?_⟩⟩
  · simp only [Sx.lk]
    cases hn : d == n with
    | true => have : d = n := by simpa using hn
              subst this; exact hs _ rfl
    | false => exact frame_SL a _ n
  · cases i with
    | zero => simp [nth] at hi; subst hi; exact hok
    | succ i => simp [nth] at hi
  · cases i with
    | zero => simp [nth] at hi; subst hi; rw [he] at hg'; injection hg' with hg'; subst hg'; exact ⟨hg, by simp [Sx.Env.old, EL]⟩
    | succ i => simp [nth] at hi
  · cases i <;> cases j <;> simp [nth] at h1 h2
    omega

theorem nundef {x : Operand} (hv : a.eval x ≠ undef) : (∃ d, x = .tmp d ∧ a.tmps[d]? = some (a.eval x)) ∨ (∀ d, x ≠ .tmp d) := by
  cases x with
  | tmp d =>
    refine .inl ⟨d, rfl, ?_⟩
    have e : a.eval (.tmp d) = a.tmps.getD d undef := rfl
    rw [e] at hv ⊢
    rw [Array.getD_eq_getD_getElem?] at hv ⊢
    cases ht : a.tmps[d]? with
    | none => rw [ht] at hv; exact absurd rfl hv
    | some v => rfl
  | _ => exact .inr (by simp)

theorem evS_plain {H : List SO} {x : Operand} {v : Value} (hv : a.eval x = v) (hp : svOf v = .val v) (hc : svc v = .val v) (hu : v ≠ undef) : Sx.ev (SL a H).F x = .val v := by
  subst hv
  rcases nundef hu with ⟨d, rfl, hd⟩ | hn
  · show Sx.lk (allF 0 a.tmps.toList) d = _
    rw [(lk_SL a d).1 _ hd, hp]
  · cases x with
    | tmp d => exact absurd rfl (hn d)
    | const c => exact hc
    | global g => simp [Act.eval, svOf] at hp
    | func f => simp [Act.eval, svOf] at hp
theorem evS_int {H : List SO} {x : Operand} {k : IntKind} {n : Int} (hv : a.eval x = .int k n) : Sx.ev (SL a H).F x = .val (.int k n) := evS_plain hv rfl rfl (by simp [undef])
theorem evS_str {H : List SO} {x : Operand} {b : ByteArray} (hv : a.eval x = .string b) : Sx.ev (SL a H).F x = .val (.string b) := evS_plain hv rfl rfl (by simp [undef])
theorem evS_slc {H : List SO} {x : Operand} {A : Option Addr} {n c : Nat} (hv : a.eval x = .slice A n c) : Sx.ev (SL a H).F x = .val (.slice A n c) := evS_plain hv rfl rfl (by simp [undef])
theorem evS_bool {H : List SO} {x : Operand} {b : Bool} (hv : a.eval x = .bool b) : Sx.bOf (Sx.ev (SL a H).F x) = some b := by
  rcases nundef (x := x) (a := a) (by rw [hv]; simp [undef]) with ⟨d, rfl, hd⟩ | hn
  · show Sx.bOf (Sx.lk (allF 0 a.tmps.toList) d) = _
    rw [(lk_SL a d).1 _ hd, hv]; rfl
  · cases x with
    | tmp d => exact absurd rfl (hn d)
    | const c => simp only [Act.eval] at hv; subst hv; cases b <;> rfl
    | global g => simp [Act.eval] at hv
    | func f => simp [Act.eval] at hv
theorem evS_ptr {H : List SO} {x : Operand} {A : Addr} (hv : a.eval x = .pointer (some A)) (hc : ∀ c, x ≠ .const c) : Sx.ev (SL a H).F x = .adr (some A) 0 := by
  rcases nundef (x := x) (a := a) (by rw [hv]; simp [undef]) with ⟨d, rfl, hd⟩ | hn
  · show Sx.lk (allF 0 a.tmps.toList) d = _
    rw [(lk_SL a d).1 _ hd, hv]; rfl
  · cases x with
    | tmp d => exact absurd rfl (hn d)
    | const c => exact absurd rfl (hc c)
    | global g => simp only [Act.eval] at hv; injection hv with hv; injection hv with hv; subst hv; rfl
    | func f => simp [Act.eval] at hv
end

structure KS where
  T : Tr KO
  n : Nat

abbrev KA := Option (KV × KS)

def ki : KV → Option (IntKind × Int)
  | .v (.int k n) => some (k, n)
  | _ => none
def kb : KV → Option Bool
  | .v (.bool b) => some b
  | _ => none
def kstr : KV → Option ByteArray
  | .v (.string b) => some b
  | _ => none
def k2 (k : IntKind) (x y : KV) : Option (Int × Int) := match x, y with
  | .v (.int i a), .v (.int j b) => (match kEq i k, kEq j k with | true, true => some (a, b) | _, _ => none)
  | _, _ => none
def fi {β : Type} (r : Int) (K : Int → Option β) : Option β := match r with
  | .ofNat 0 => K (.ofNat 0)
  | .ofNat (m + 1) => K (.ofNat (m + 1))
  | .negSucc 0 => K (.negSucc 0)
  | .negSucc (m + 1) => K (.negSucc (m + 1))
theorem fi_eq {β : Type} (r : Int) (K : Int → Option β) : fi r K = K r := by
  unfold fi; split <;> rfl
def fb {β : Type} (r : Bool) (K : Bool → Option β) : Option β := match r with
  | true => K true
  | false => K false
theorem fb_eq {β : Type} (r : Bool) (K : Bool → Option β) : fb r K = K r := by cases r <;> rfl

def arithR (op : BinOp) (k : IntKind) (a b : Int) : Option Int := match op with
  | .add => some (k.wrap (a + b))
  | .sub => some (k.wrap (a - b))
  | .mul => some (k.wrap (a * b))
  | _ => none
def divR (op : BinOp) (k : IntKind) (a b : Int) : Option Int := match b with
  | .ofNat 0 => none
  | b => match op with
    | .quo => some (k.wrap (a.tdiv b))
    | .rem => some (a.tmod b)
    | _ => none
def bitsR (op : BinOp) (k : IntKind) (a b : Int) : Option Int := match op with
  | .and => some (k.wrap (BitVec.ofInt k.bits a &&& BitVec.ofInt k.bits b).toNat)
  | .or => some (k.wrap (BitVec.ofInt k.bits a ||| BitVec.ofInt k.bits b).toNat)
  | .xor => some (k.wrap (BitVec.ofInt k.bits a ^^^ BitVec.ofInt k.bits b).toNat)
  | .andNot => some (k.wrap (BitVec.ofInt k.bits a &&& ~~~ BitVec.ofInt k.bits b).toNat)
  | _ => none
def shiftR (op : BinOp) (k : IntKind) (a b : Int) : Option Int := match b with
  | .negSucc _ => none
  | .ofNat b => match op with
    | .shl => some (k.wrap (a * 2 ^ (min b k.bits)))
    | .shr => some (a.fdiv (2 ^ (min b k.bits)))
    | _ => none
def giveI (k : IntKind) (S : KS) : Option Int → KA
  | some r => fi r fun r => some (.v (.int k r), S)
  | none => none
def giveB (S : KS) (b : Bool) : KA := fb b fun b => some (.v (.bool b), S)

section
variable (E : KE) (P : Program) (o : Oper) (a : Act) (W : World) (h : KH) (γ : Nat → Gh)
def OkP (kv : KV) : Prop := ∃ v, (∀ W2 : World, (execOp a.eval o).run P W2 = .ok (.value v) W2) ∧ Is h γ kv v
def OkR (kv : KV) : Prop := ∃ v, (∀ W2, Grow W W2 → (execOp a.eval o).run P W2 = .ok (.value v) W2) ∧ Is h γ kv v
def OkW (kv : KV) (S' : KS) : Prop := ∃ v W' γ', Ran P o a W v W' ∧ Is S'.T.get γ' kv v ∧ Ext h γ S'.T.get γ' ∧ HeapOk E P S'.T.get γ' W'
end
def Ok (E : KE) (P : Program) (o : Oper) (a : Act) (W : World) (S : KS) (γ : Nat → Gh) (x : XK) (kv : KV) (S' : KS) : Prop :=
  if pureK x then S' = S ∧ OkP P o a S.T.get γ kv else if readK x then S' = S ∧ OkR P o a W S.T.get γ kv else OkW E P o a W S.T.get γ kv S'

section
variable {E : KE} {P : Program} {nt : Nat} {mk : List Nat} {F : Tr KV} {S S' : KS} {γ : Nat → Gh} {a : Act} {W : World} {o : Oper} {kv : KV} {x : XK}

theorem ki_is {h : KH} {k : KV} {i : IntKind} {n : Int} {v : Value} (e : ki k = some (i, n)) (hi : Is h γ k v) : v = .int i n := by
  unfold ki at e; split at e
  · injection e with e; injection e with e1 e2; subst e1; subst e2; simpa [Is] using hi
  · cases e
theorem kb_is {h : KH} {k : KV} {b : Bool} {v : Value} (e : kb k = some b) (hi : Is h γ k v) : v = .bool b := by
  unfold kb at e; split at e
  · injection e with e; subst e; simpa [Is] using hi
  · cases e
theorem kstr_is {h : KH} {k : KV} {b : ByteArray} {v : Value} (e : kstr k = some b) (hi : Is h γ k v) : v = .string b := by
  unfold kstr at e; split at e
  · injection e with e; subst e; simpa [Is] using hi
  · cases e
theorem k2_is {h : KH} {k : IntKind} {x y : KV} {m n : Int} {u v : Value} (e : k2 k x y = some (m, n)) (hx : Is h γ x u) (hy : Is h γ y v) : u = .int k m ∧ v = .int k n := by
  unfold k2 at e; split at e
  · split at e
    · rename_i h1 h2
      injection e with e; injection e with e1 e2; subst e1; subst e2
      rw [Sx.kEq_eq h1] at hx; rw [Sx.kEq_eq h2] at hy
      exact ⟨by simpa [Is] using hx, by simpa [Is] using hy⟩
    · cases e
  · cases e

theorem okP_of' (r : Rep E P nt mk F S.T.get γ a W) (hc : cmpK P o.op = some x) (hp : pureK x = true) {v : Value} (h : xk (EL W nt (mk.map fun i => (γ i).g) []) (SL a []) (fun sv _ => ∀ u, Sx.Is [] sv u → u = v) x) : OkP P o a S.T.get γ (.v v) := by
  have := xk_sound hc (rep_SL r) h
  unfold ResK at this
  rw [if_pos hp] at this
  obtain ⟨u, sv, h1, h2, h3⟩ := this
  have := h2 u h3; subst this
  exact ⟨u, h1, by simp [Is]⟩
theorem okP_of (r : Rep E P nt mk F S.T.get γ a W) (hc : cmpK P o.op = some x) (hp : pureK x = true) {v : Value} (h : xk (EL W nt (mk.map fun i => (γ i).g) []) (SL a []) (fun sv _ => sv = .val v) x) : OkP P o a S.T.get γ (.v v) := by
  have := xk_sound hc (rep_SL r) h
  unfold ResK at this
  rw [if_pos hp] at this
  obtain ⟨u, sv, h1, rfl, h3⟩ := this
  simp only [Sx.Is] at h3; subst h3
  exact ⟨u, h1, by simp [Is]⟩
end
end Go.Kx

namespace Go.Kx
open Go Go.Sx
theorem cmpK1_old {P : Program} {op : Op} {x : XK} (h : cmpK P op = some x) (hn : isNew x = false) : cmpK0 P op = some x := by
  unfold cmpK at h
  split at h
  · rename_i y hy; injection h with h; subst h; exact hy
  · split at h
    · rename_i y hy; injection h with h; subst h; have := cmpK1_new hy; rw [hn] at this; cases this
    · split at h
      · injection h with h; subst h; cases hn
      · cases h
theorem inv_mov {P : Program} {op : Op} {x : Operand} (h : cmpK0 P op = some (.mov x)) : op = .move x ∨ op = .assign x := by
  unfold cmpK0 cmpBin cmpEqa cmpNil cmpUn cmpConv cmpSub cmpIxv cmpIdx cmpFld cmpFldv cmpLoad cmpStore cmpAlloc cmpBox cmpBuild cmpBuildS cmpCall cmpApp at h
  repeat' (split at h)
  all_goals first | (cases h; done) | (injection h with h; injection h with h; subst h; first | exact .inl rfl | exact .inr rfl)
theorem inv_pick {P : Program} {op : Op} {c x y : Operand} (h : cmpK0 P op = some (.pick c x y)) : op = .pick c x y := by
  unfold cmpK0 cmpBin cmpEqa cmpNil cmpUn cmpConv cmpSub cmpIxv cmpIdx cmpFld cmpFldv cmpLoad cmpStore cmpAlloc cmpBox cmpBuild cmpBuildS cmpCall cmpApp at h
  repeat' (split at h)
  all_goals first | (cases h; done) | (injection h with h; injection h with h1 h2 h3; subst h1; subst h2; subst h3; rfl)
theorem inv_ext {P : Program} {op : Op} {x : Operand} {i : Nat} (h : cmpK0 P op = some (.ext x i)) : op = .extract x i := by
  unfold cmpK0 cmpBin cmpEqa cmpNil cmpUn cmpConv cmpSub cmpIxv cmpIdx cmpFld cmpFldv cmpLoad cmpStore cmpAlloc cmpBox cmpBuild cmpBuildS cmpCall cmpApp at h
  repeat' (split at h)
  all_goals first | (cases h; done) | (injection h with h; injection h with h1 h2; subst h1; subst h2; rfl)
theorem inv_nilc {P : Program} {op : Op} {x : Operand} (h : cmpK0 P op = some (.nilc x)) : op = .nilCheck x := by
  unfold cmpK0 cmpBin cmpEqa cmpNil cmpUn cmpConv cmpSub cmpIxv cmpIdx cmpFld cmpFldv cmpLoad cmpStore cmpAlloc cmpBox cmpBuild cmpBuildS cmpCall cmpApp at h
  repeat' (split at h)
  all_goals first | (cases h; done) | (injection h with h; injection h with h1; subst h1; rfl)
theorem inv_mkfn {P : Program} {op : Op} {f : Fn} {p q : List Operand} (h : cmpK0 P op = some (.mkfn f p q)) : ∃ p' q', op = .makeFunc f p' q' ∧ p'.toList = p ∧ q'.toList = q := by
  unfold cmpK0 cmpBin cmpEqa cmpNil cmpUn cmpConv cmpSub cmpIxv cmpIdx cmpFld cmpFldv cmpLoad cmpStore cmpAlloc cmpBox cmpBuild cmpBuildS cmpCall cmpApp at h
  repeat' (split at h)
  all_goals first | (cases h; done) | (injection h with h; injection h with h1 h2 h3; subst h1; exact ⟨_, _, rfl, h2, h3⟩)
theorem kEq_refl (k : IntKind) : kEq k k = true := by cases k <;> rfl
end Go.Kx
