/- The runner, part 4: addresses, loads, stores, new blocks. -/
import Derived.Test.YtfgdmcnlbgbleaaDoorKxPure
set_option linter.unusedSimpArgs false
set_option linter.unusedVariables false
set_option linter.unnecessarySimpa false
namespace Go.Kx
open Go
open Go.Sx (Grow Keep XC XS XI XK CK NK cmp theOrder Jump Ran SV SO kEq cmpK cmpK0 cmpK1 isNew pureK readK xk xk_sound ResK ResP ResR Res svc nth takeL dropL szT isAggT zeroT)

section
open Go.Sx
theorem inv_load {P : Program} {op : Op} {cks : List CK} {agg : Bool} {x : Operand} (h : cmpK0 P op = some (.load cks agg x)) : ∃ t, op = .load t x ∧ (P.underlying t).isSome = true ∧ szT P t = some cks.length ∧ agg = isAggT P t := by
  unfold cmpK0 cmpBin cmpEqa cmpNil cmpUn cmpConv cmpSub cmpIxv cmpIdx cmpFld cmpFldv cmpLoad cmpStore cmpAlloc cmpBox cmpBuild cmpBuildS cmpCall cmpApp at h
  repeat' (split at h)
  all_goals first | (cases h; done) | (rename_i e1 e2 e3 e4; injection h with h; injection h with h1 h2 h3; subst h1; subst h3; exact ⟨_, rfl, by rw [e2]; rfl, by rw [e3, e4], h2.symm⟩)
theorem inv_store {P : Program} {op : Op} {n : Nat} {x v : Operand} (h : cmpK0 P op = some (.store n x v)) : ∃ t, op = .store t x v ∧ szT P t = some n ∧ 0 < n := by
  unfold cmpK0 cmpBin cmpEqa cmpNil cmpUn cmpConv cmpSub cmpIxv cmpIdx cmpFld cmpFldv cmpLoad cmpStore cmpAlloc cmpBox cmpBuild cmpBuildS cmpCall cmpApp at h
  repeat' (split at h)
  all_goals first | (cases h; done) | (rename_i e1; injection h with h; injection h with h1 h2 h3; subst h1; subst h2; subst h3; exact ⟨_, rfl, e1, Nat.succ_pos _⟩)
theorem inv_alloc {P : Program} {op : Op} {t : TypeId} {z : List Value} (h : cmpK0 P op = some (.alloc t z)) : op = .alloc t ∧ zeroT P t = some z := by
  unfold cmpK0 cmpBin cmpEqa cmpNil cmpUn cmpConv cmpSub cmpIxv cmpIdx cmpFld cmpFldv cmpLoad cmpStore cmpAlloc cmpBox cmpBuild cmpBuildS cmpCall cmpApp at h
  repeat' (split at h)
  all_goals first | (cases h; done) | (rename_i e1; injection h with h; injection h with h1 h2; subst h1; subst h2; exact ⟨rfl, e1⟩)
theorem inv_box {P : Program} {op : Op} {t : TypeId} {n : Nat} {v : Operand} (h : cmpK0 P op = some (.box t n v)) : op = .box t v ∧ szT P t = some n := by
  unfold cmpK0 cmpBin cmpEqa cmpNil cmpUn cmpConv cmpSub cmpIxv cmpIdx cmpFld cmpFldv cmpLoad cmpStore cmpAlloc cmpBox cmpBuild cmpBuildS cmpCall cmpApp at h
  repeat' (split at h)
  all_goals first | (cases h; done) | (rename_i e1; injection h with h; injection h with h1 h2 h3; subst h1; subst h2; subst h3; exact ⟨rfl, e1⟩)
theorem inv_idx {P : Program} {op : Op} {sz : Nat} {x i : Operand} (h : cmpK0 P op = some (.idx sz x i)) : ∃ t e, op = .indexAddr t x i ∧ P.underlying t = some (.slice e) ∧ szT P e = some sz := by
  unfold cmpK0 cmpBin cmpEqa cmpNil cmpUn cmpConv cmpSub cmpIxv cmpIdx cmpFld cmpFldv cmpLoad cmpStore cmpAlloc cmpBox cmpBuild cmpBuildS cmpCall cmpApp at h
  repeat' (split at h)
  all_goals first | (cases h; done) | (injection h with h; injection h with h1 h2 h3; subst h1; subst h2; subst h3; exact ⟨_, _, rfl, by assumption, by assumption⟩)
theorem inv_idxA {P : Program} {op : Op} {n sz : Nat} {x i : Operand} (h : cmpK0 P op = some (.idxA n sz x i)) : ∃ t e, op = .indexAddr t x i ∧ P.underlying t = some (.array n e) ∧ szT P e = some sz ∧ 1 < n := by
  unfold cmpK0 cmpBin cmpEqa cmpNil cmpUn cmpConv cmpSub cmpIxv cmpIdx cmpFld cmpFldv cmpLoad cmpStore cmpAlloc cmpBox cmpBuild cmpBuildS cmpCall cmpApp at h
  repeat' (split at h)
  all_goals first | (cases h; done) | (injection h with h; injection h with h0 h1 h2 h3; subst h0; subst h1; subst h2; subst h3; exact ⟨_, _, rfl, by assumption, by assumption, by assumption⟩)
theorem inv_fld {P : Program} {op : Op} {off : Nat} {x : Operand} (h : cmpK0 P op = some (.fld off x)) : ∃ t fs f fd m, op = .fieldAddr t x f ∧ P.underlying t = some (.struct fs) ∧ fs[f]? = some fd ∧ szT P fd.type = some (m + 1) ∧ fd.offset = off := by
  unfold cmpK0 cmpBin cmpEqa cmpNil cmpUn cmpConv cmpSub cmpIxv cmpIdx cmpFld cmpFldv cmpLoad cmpStore cmpAlloc cmpBox cmpBuild cmpBuildS cmpCall cmpApp at h
  repeat' (split at h)
  all_goals first | (cases h; done) | (injection h with h; injection h with h0 h1; subst h1; exact ⟨_, _, _, _, _, rfl, by assumption, by assumption, by assumption, h0⟩)
theorem inv_fldv {P : Program} {op : Op} {off n : Nat} {agg : Bool} {x : Operand} (h : cmpK0 P op = some (.fldv off n agg x)) : ∃ t fs f fd, op = .field t x f ∧ P.underlying t = some (.struct fs) ∧ fs[f]? = some fd ∧ szT P fd.type = some n ∧ fd.offset = off ∧ (P.underlying fd.type).isSome = true ∧ agg = isAggT P fd.type := by
  unfold cmpK0 cmpBin cmpEqa cmpNil cmpUn cmpConv cmpSub cmpIxv cmpIdx cmpFld cmpFldv cmpLoad cmpStore cmpAlloc cmpBox cmpBuild cmpBuildS cmpCall cmpApp at h
  repeat' (split at h)
  all_goals first | (cases h; done) | (rename_i e4; injection h with h; injection h with h0 h1 h2 h3; subst h1; subst h3; exact ⟨_, _, _, _, rfl, by assumption, by assumption, by assumption, h0, by rw [e4]; rfl, h2.symm⟩)
theorem inv_build {P : Program} {op : Op} {z : List Value} {l : List (Nat × Nat × Operand)} (h : cmpK0 P op = some (.build z l)) : ∃ t parts, op = .build t parts ∧ zeroT P t = some z ∧
    ((∃ fs, P.underlying t = some (.struct fs) ∧ fs.all (fun f => (szT P f.type).isSome) = true ∧ cvS P fs parts.toList = some l) ∨ (∃ n e m, P.underlying t = some (.array n e) ∧ szT P e = some m ∧ l = parts.toList.map fun p => (p.1 * m, m, p.2))) := by
  unfold cmpK0 cmpBin cmpEqa cmpNil cmpUn cmpConv cmpSub cmpIxv cmpIdx cmpFld cmpFldv cmpLoad cmpStore cmpAlloc cmpBox cmpBuild cmpBuildS cmpCall cmpApp at h
  repeat' (split at h)
  all_goals first | (cases h; done) | (injection h with h; injection h with h1 h2; subst h1; subst h2; exact ⟨_, _, rfl, by assumption, .inl ⟨_, by assumption, by assumption, by assumption⟩⟩) | (injection h with h; injection h with h1 h2; subst h1; subst h2; exact ⟨_, _, rfl, by assumption, .inr ⟨_, _, _, by assumption, by assumption, rfl⟩⟩)
theorem inv_buildS {P : Program} {op : Op} {e : TypeId} {len n : Nat} {z : List Value} {l : List (Nat × Operand)} (h : cmpK0 P op = some (.buildS e len n z l)) : ∃ t parts, op = .buildSlice t len parts ∧ P.underlying t = some (.slice e) ∧ szT P e = some n ∧ zeroT P e = some z ∧
    (z.length = n ∧ 0 < n ∧ len * n ≤ 2 ^ 24) ∧ l = parts.toList := by
  unfold cmpK0 cmpBin cmpEqa cmpNil cmpUn cmpConv cmpSub cmpIxv cmpIdx cmpFld cmpFldv cmpLoad cmpStore cmpAlloc cmpBox cmpBuild cmpBuildS cmpCall cmpApp at h
  repeat' (split at h)
  all_goals first | (cases h; done) | (injection h with h; injection h with h1 h2 h3 h4 h5; subst h1; subst h2; subst h3; subst h4; subst h5; exact ⟨_, _, rfl, by assumption, by assumption, by assumption, by assumption, rfl⟩)
end
end Go.Kx

namespace Go.Kx
open Go
open Go.Sx (Grow Keep XC XS XI XK CK NK cmp theOrder Jump Ran SV SO kEq cmpK cmpK0 cmpK1 isNew pureK readK xk xk_sound ResK ResP ResR Res svc nth takeL dropL szT isAggT zeroT splice)

def findG : List (Nat × List Value) → Nat → Option (List Value)
  | [], _ => none
  | (g, l) :: r, k => match Nat.beq g k with
    | true => some l
    | false => findG r k
theorem findG_mem : ∀ {G : List (Nat × List Value)} {k : Nat} {l : List Value}, findG G k = some l → (k, l) ∈ G
  | [], _, _, h => by simp [findG] at h
  | (g, l') :: r, k, l, h => by
    simp only [findG] at h
    split at h
    · rename_i e; injection h with h; subst h; have := Nat.eq_of_beq_eq_true e; subst this; simp
    · exact List.mem_cons_of_mem _ (findG_mem h)

def rdp (G : List (Nat × List Value)) (T : Tr KO) (p : KV) (n : Nat) : Option (List KV) := match p with
  | .p i off => (match T.get i with | some (.cells _ l) => takeL n (dropL off l) | some (.frz _ l) => takeL n (dropL off l) | _ => none)
  | .q i ver off => (match T.get i with
    | some (.grow _ _ ver' l) => (match Nat.beq ver' ver with | true => takeL n (dropL off l) | false => none)
    | _ => none)
  | .v (.pointer (some ⟨g, off, none⟩)) => (match findG G g with
    | some l => (match takeL n (dropL off l) with | some us => some (us.map .v) | none => none)
    | none => none)
  | _ => none

theorem cell_lit (W : World) (g off : Nat) {cur : Array Value} {t : TypeId} {z : Nat × Nat} (h : W.heap[g]? = some (.cells cur t z)) : W.cell? ⟨g, off, none⟩ = cur[off]? := by
  unfold World.cell?; simp [h]

theorem takeDrop_get {α : Type} {n off : Nat} {l r : List α} (h : takeL n (dropL off l) = some r) : r = (l.drop off).take n ∧ r.length = n ∧ (off + n ≤ l.length ∨ n = 0) := by
  obtain ⟨h1, h2, h3⟩ := Sx.takeL_eq _ _ _ h
  rw [Sx.dropL_eq] at h1 h3
  refine ⟨h1, h2, ?_⟩
  simp at h3; omega

section
variable {E : KE} {P : Program} {nt : Nat} {mk : List Nat} {F : Tr KV} {S S' : KS} {γ : Nat → Gh} {a : Act} {W : World} {o : Oper} {kv : KV} {x : XK}

theorem rdp_spec (hE : E.Ok) (hh : HeapOk E P S.T.get γ W) {p : KV} {v : Value} {n : Nat} {ks : List KV} (hi : Is S.T.get γ p v) (h : rdp E.G S.T p n = some ks) :
    ∃ g off us, v = .pointer (some ⟨g, off, none⟩) ∧ us.length = n ∧ (∀ j u, us[j]? = some u → W.cell? (Addr.add ⟨g, off, none⟩ j) = some u) ∧ IsL S.T.get γ ks us := by
  unfold rdp at h
  split at h
  · rename_i i off
    split at h
    case h_3 => cases h
    · rename_i t l he
      simp only [Is] at hi
      obtain ⟨c, hc, hL⟩ := hh.ents _ _ he
      obtain ⟨rfl, hlen, hfit⟩ := takeDrop_get h
      refine ⟨_, _, (c.toList.drop off).take n, hi.2, ?_, fun j u hj => ?_, (hL.drop off).take n⟩
      · have := (hL.drop off).take n; rw [this.length, hlen]
      · rw [Sx.add_lit, cell_lit _ _ _ hc]
        rw [List.getElem?_take] at hj
        split at hj
        · rw [List.getElem?_drop] at hj; simpa using hj
        · cases hj
    · rename_i t l he
      simp only [Is] at hi
      obtain ⟨c, fz, hc, hll, hL⟩ := hh.ents _ _ he
      obtain ⟨rfl, hlen, hfit⟩ := takeDrop_get h
      refine ⟨_, _, ((c.toList.take l.length).drop off).take n, hi.2, ?_, fun j u hj => ?_, (hL.drop off).take n⟩
      · have := (hL.drop off).take n; rw [this.length, hlen]
      · rw [Sx.add_lit, cell_lit _ _ _ hc]
        rw [List.getElem?_take] at hj
        split at hj
        · rw [List.getElem?_drop, List.getElem?_take] at hj
          split at hj
          · simpa using hj
          · cases hj
        · cases hj
  · rename_i i ver off
    split at h
    case h_2 => cases h
    rename_i t sz ver' l he
    split at h
    case h_2 => cases h
    rename_i hb
    have hb := Nat.eq_of_beq_eq_true hb
    subst hb
    simp only [Is] at hi
    obtain ⟨_, ⟨t1, sz1, v1, l1, he1, _, hv⟩ | he1⟩ := hi
    case inr => rw [he] at he1; cases he1
    rw [he] at he1; injection he1 with he1; injection he1 with q1 q2 q3 q4
    subst q1; subst q2; subst q3; subst q4
    obtain ⟨cur, hc, r1, r2, r3, hL⟩ := hh.ents _ _ he
    obtain ⟨rfl, hlen, hfit⟩ := takeDrop_get h
    refine ⟨_, _, (((cur.toList.drop (γ i).b).take l.length).drop off).take n, hv rfl, ?_, fun j u hj => ?_, (hL.drop off).take n⟩
    · have := (hL.drop off).take n; rw [this.length, hlen]
    · rw [Sx.add_lit, cell_lit _ _ _ hc]
      rw [List.getElem?_take] at hj
      split at hj
      · rw [List.getElem?_drop, List.getElem?_take] at hj
        split at hj
        · rw [List.getElem?_drop] at hj
          simpa [Nat.add_assoc] using hj
        · cases hj
      · cases hj
  · rename_i g off
    split at h
    case h_2 => cases h
    rename_i l he
    split at h
    case h_2 => cases h
    rename_i us htk
    injection h with h; subst h
    simp only [Is] at hi
    obtain ⟨hg, hcl⟩ := hE g l (findG_mem he)
    obtain ⟨rfl, hlen, hfit⟩ := takeDrop_get htk
    refine ⟨g, off, (l.drop off).take n, hi, hlen, fun j u hj => ?_, IsL.vals _⟩
    rw [List.getElem?_take] at hj
    split at hj
    · rw [List.getElem?_drop] at hj
      rw [Sx.add_lit]
      have := hcl _ _ hj
      unfold World.cell? at this ⊢
      rw [hh.keep.block g hg]; exact this
    · cases hj
  · cases h

def one (agg : Bool) (l : List KV) : Option KV := match agg, l with
  | true, l => some (.a l)
  | false, [v] => some v
  | false, _ => none

theorem run_loadAt {t : TypeId} {n : Nat} (hu : (P.underlying t).isSome = true) (hz : szT P t = some n) (A : Addr) (us : List Value) (hl : us.length = n) (W2 : World) (hc : ∀ j u, us[j]? = some u → W2.cell? (A.add j) = some u) :
    (isAggT P t = true → (Instr.loadAt t (.pointer (some A))).run P W2 = .ok (.agg us.toArray) W2) ∧ (isAggT P t = false → ∀ u, us = [u] → (Instr.loadAt t (.pointer (some A))).run P W2 = .ok u W2) := by
  have hlc := run_loadCells_list (P := P) W2 A us hc
  rw [hl] at hlc
  constructor
  · intro hg
    simp [Instr.loadAt, Instr.sureAddr, loadVar, Sx.run_isAgg P t hu, hg, Sx.run_sizeOf hz, hlc]
  · intro hg u hus
    subst hus
    have h0 := hc 0 u rfl
    have : (A.add 0) = A := by simp [Addr.add]
    rw [this] at h0
    simp [Instr.loadAt, Instr.sureAddr, loadVar, Sx.run_isAgg P t hu, hg, run_load, h0]

theorem load_ok (hE : E.Ok) (r : Rep E P nt mk F S.T.get γ a W) {cks : List CK} {agg : Bool} {y : Operand} (hc : cmpK P o.op = some (.load cks agg y)) {ks : List KV} (h : rdp E.G S.T (ev F y) cks.length = some ks) (h1 : one agg ks = some kv) : OkR P o a W S.T.get γ kv := by
  obtain ⟨t, ho, hu, hz, rfl⟩ := inv_load (cmpK1_old hc rfl)
  obtain ⟨g, off, us, hv, hl, hcells, hL⟩ := rdp_spec hE r.heap (r.ev y) h
  have key := fun W2 (hg : Grow W W2) => run_loadAt hu hz ⟨g, off, none⟩ us hl W2 (fun j u hj => hg.cell (hcells j u hj))
  unfold one at h1
  split at h1
  · rename_i hg; injection h1 with h1; subst h1
    refine ⟨.agg us.toArray, fun W2 hgr => ?_, by simp only [Is]; exact ⟨us, hL, rfl⟩⟩
    have := (key W2 hgr).1 hg
    simp [execOp, ho, hv, this]
  · rename_i k hg; injection h1 with h1; subst h1
    simp only [IsL] at hL
    obtain ⟨u, rr, hu', rfl, rfl⟩ := hL
    refine ⟨u, fun W2 hgr => ?_, hu'⟩
    have := (key W2 hgr).2 hg u rfl
    simp [execOp, ho, hv, this]
  · cases h1

def okC : KV → Bool
  | .u | .a _ | .t _ => false
  | .v (.agg _) | .v (.tuple _) => false
  | _ => true
def okCs : List KV → Bool
  | [] => true
  | k :: l => match okC k with | true => okCs l | false => false
theorem okC_one {h : KH} {k : KV} {v : Value} (e : okC k = true) (hi : Is h γ k v) : v.oneCell' = true := by
  cases k with
  | v x => simp only [Is] at hi; subst hi; cases v <;> first | rfl | simp [okC] at e
  | u => simp [okC] at e
  | a => simp [okC] at e
  | t => simp [okC] at e
  | p => simp only [Is] at hi; rw [hi.2]; rfl
  | q => simp only [Is] at hi; obtain ⟨⟨A, hA⟩, _⟩ := hi; rw [hA]; rfl
  | s => simp only [Is] at hi; rw [hi.2]; rfl
  | w => simp only [Is] at hi; obtain ⟨⟨A, c, hA⟩, _⟩ := hi; rw [hA]; rfl
  | m => simp only [Is] at hi; rw [hi.2]; rfl
  | y => simp only [Is] at hi; rw [hi.2]; rfl
  | f => simp only [Is] at hi; obtain ⟨x, y, _, _, e⟩ := hi; rw [e]; rfl
  | i => simp only [Is] at hi; obtain ⟨u, _, e⟩ := hi; rw [e]; rfl
  | z => simp only [Is] at hi; obtain ⟨_, c, e⟩ := hi; rw [e]; rfl
theorem okCs_one {h : KH} : ∀ {l : List KV} {vs : List Value}, okCs l = true → IsL h γ l vs → ∀ v ∈ vs, v.oneCell' = true
  | [], _, _, k => by simp [IsL] at k; subst k; simp
  | s :: l, _, e, k => by
    simp only [okCs] at e; split at e
    · rename_i h1
      simp only [IsL] at k; obtain ⟨v, r, hv, hr, rfl⟩ := k
      intro u hu
      rcases List.mem_cons.1 hu with rfl | hu
      · exact okC_one h1 hv
      · exact okCs_one e hr u hu
    · cases e
def kcells (n : Nat) : KV → Option (List KV)
  | .a l => match Nat.beq l.length n, okCs l with | true, true => some l | _, _ => none
  | k => match Nat.beq n 1, okC k with | true, true => some [k] | _, _ => none
theorem kcells_spec {h : KH} {n : Nat} {k : KV} {v : Value} {l : List KV} (e : kcells n k = some l) (hi : Is h γ k v) :
    ∃ us, v.cells = us.toArray ∧ IsL h γ l us ∧ us.length = n ∧ ∀ u ∈ us, u.oneCell' = true := by
  unfold kcells at e
  split at e
  · rename_i l0
    split at e
    · rename_i h1 h2
      injection e with e; subst e
      simp only [Is] at hi
      obtain ⟨vs, hL, rfl⟩ := hi
      exact ⟨vs, rfl, hL, by rw [hL.length, Nat.eq_of_beq_eq_true h1], okCs_one h2 hL⟩
    · cases e
  · split at e
    · rename_i h1 h2
      injection e with e; subst e
      have h3 := okC_one h2 hi
      have := Nat.eq_of_beq_eq_true h1; subst this
      exact ⟨[v], Sx.one_cells h3, IsL.cons hi IsL.nil, rfl, by simpa using h3⟩
    · cases e
def putL {α : Type} : List α → Nat → List α → Option (List α)
  | c, 0, [] => some c
  | [], 0, _ :: _ => none
  | _ :: c, 0, y :: l => match putL c 0 l with | some r => some (y :: r) | none => none
  | [], _ + 1, _ => none
  | x :: c, n + 1, l => match putL c n l with | some r => some (x :: r) | none => none
theorem putL_spec {α : Type} : ∀ (c : List α) (off : Nat) (l r : List α), putL c off l = some r → off + l.length ≤ c.length ∧ r = splice c off l
  | c, 0, [], r, h => by cases c <;> simp [putL] at h <;> subst h <;> simp [splice]
  | [], 0, y :: l, r, h => by simp [putL] at h
  | x :: c, 0, y :: l, r, h => by
    simp only [putL] at h
    split at h
    · rename_i r' hr
      injection h with h; subst h
      obtain ⟨h1, h2⟩ := putL_spec c 0 l r' hr
      refine ⟨by simp at h1 ⊢; omega, ?_⟩
      rw [h2, Sx.splice_eq _ _ _ h1, Sx.splice_eq _ _ _ (by simp at h1 ⊢; omega)]
      simp
    · cases h
  | [], n + 1, l, r, h => by simp [putL] at h
  | x :: c, n + 1, l, r, h => by
    simp only [putL] at h
    split at h
    · rename_i r' hr
      injection h with h; subst h
      obtain ⟨h1, h2⟩ := putL_spec c n l r' hr
      refine ⟨by simp; omega, ?_⟩
      rw [h2, Sx.splice_eq _ _ _ h1, Sx.splice_eq _ _ _ (by simp; omega)]
      have e : n + 1 + l.length = (n + l.length) + 1 := by omega
      rw [e]; simp
    · cases h
theorem IsL.splice {h : KH} {l vs : List KV} {us ws : List Value} {off : Nat} (k : IsL h γ l us) (hv : IsL h γ vs ws) (hl : off + vs.length ≤ l.length) : IsL h γ (Sx.splice l off vs) (Sx.splice us off ws) := by
  have h1 := k.length; have h2 := hv.length
  rw [Sx.splice_eq _ _ _ hl, Sx.splice_eq _ _ _ (by omega), h2]
  exact ((k.take off).append hv).append (k.drop _)

def wrp (T : Tr KO) (p : KV) (l : List KV) : Option (Nat × KO) := match p with
  | .p i off => (match T.get i with
    | some (.cells t c) => (match putL c off l with | some c' => some (i, .cells t c') | none => none)
    | _ => none)
  | .q i ver off => (match T.get i with
    | some (.grow t sz ver' c) => (match Nat.beq ver' ver, putL c off l with | true, some c' => some (i, .grow t sz ver' c') | _, _ => none)
    | _ => none)
  | _ => none
def setE (S : KS) (i : Nat) (e : KO) : Option KS := match Tr.set 40 S.T i e with | some T => some ⟨T, S.n⟩ | none => none
theorem setE_get {i : Nat} {e : KO} (h : setE S i e = some S') : S'.T.get = upd S.T.get i (some e) := by
  unfold setE at h; split at h
  · rename_i T hT
    injection h with h; subst h
    funext j; rw [Tr.get_set 40 hT]; rfl
  · cases h
theorem upd_id {α : Type} (f : Nat → α) (i : Nat) : upd f i (f i) = f := by funext j; unfold upd; split <;> simp_all

theorem wrp_ok (hh : HeapOk E P S.T.get γ W) {p : KV} {v : Value} {l : List KV} {us : List Value} {i : Nat} {e : KO} (hi : Is S.T.get γ p v) (hL : IsL S.T.get γ l us) (h : wrp S.T p l = some (i, e)) (hS : setE S i e = some S') :
    ∃ g off cur tt, v = .pointer (some ⟨g, off, none⟩) ∧ W.heap[g]? = some (.cells cur tt (0, 0)) ∧ off + us.length ≤ cur.size ∧ Ext S.T.get γ S'.T.get γ ∧ HeapOk E P S'.T.get γ (W.setRow g (splice cur.toList off us).toArray) := by
  have ek := setE_get hS
  unfold wrp at h
  split at h
  · rename_i i0 off
    split at h
    case h_2 => cases h
    rename_i t c he
    split at h
    case h_2 => cases h
    rename_i c' hp
    injection h with h; injection h with h1 h2; subst h1; subst h2
    simp only [Is] at hi
    obtain ⟨cur, hc, hcL⟩ := hh.ents _ _ he
    obtain ⟨hfit, rfl⟩ := putL_spec _ _ _ _ hp
    have hx : Ext S.T.get γ S'.T.get γ := by
      have := Ext.fixd (γ := γ) (e' := .cells t (splice c off l)) he rfl rfl (G := γ i0) rfl
      rw [upd_id] at this; rw [ek]; exact this
    refine ⟨_, _, cur, t, hi.2, hc, by have := hcL.length; rw [hL.length]; simp at this; omega, hx, ?_⟩
    rw [ek] at hx ⊢
    have := hh.put (W' := W.setRow (γ i0).g (splice cur.toList off us).toArray) (G' := γ i0) (e' := .cells t (splice c off l)) (i := i0) (by rw [upd_id]; exact hx) (by simp [World.setRow]) rfl rfl rfl
      (fun j _ hj => Sx.setRow_other W _ _ j (fun q => hj _ he (by rw [q]; rfl))) (fun g hg => ⟨.inl ⟨_, he, by simpa [KO.fp] using hg⟩, by
        simp only [KO.fp, Option.some.injEq] at hg; subst hg; simp only [World.setRow, Array.size_modify]; exact (hh.fresh _ _ _ he rfl).2⟩) ?_
    · rw [upd_id] at this; exact this
    · rw [upd_id]
      exact ⟨_, setRow_heap W _ cur _ t _ hc, (hcL.splice hL hfit).ext hx⟩
  · rename_i i0 ver off
    split at h
    case h_2 => cases h
    rename_i t sz ver' c he
    split at h
    case h_2 => cases h
    rename_i c' hb hp
    injection h with h; injection h with h1 h2; subst h1; subst h2
    have hb := Nat.eq_of_beq_eq_true hb
    subst hb
    simp only [Is] at hi
    obtain ⟨_, ⟨t1, sz1, v1, l1, he1, _, hv⟩ | he1⟩ := hi
    case inr => rw [he] at he1; cases he1
    rw [he] at he1; injection he1 with he1; injection he1 with q1 q2 q3 q4
    subst q1; subst q2; subst q3; subst q4
    obtain ⟨cur, hc, r1, r2, r3, hcL⟩ := hh.ents _ _ he
    obtain ⟨hfit, rfl⟩ := putL_spec _ _ _ _ hp
    have hx : Ext S.T.get γ S'.T.get γ := by
      have := Ext.grown (γ := γ) (t' := t) (l' := splice c off l) he (Nat.le_refl _) (G := γ i0) (fun _ => rfl)
      rw [upd_id] at this; rw [ek]; exact this
    have hul := hL.length
    have hcc : (γ i0).b + c.length ≤ cur.size := by rw [← r2]; omega
    refine ⟨_, _, cur, t, hv rfl, hc, by omega, hx, ?_⟩
    rw [ek] at hx ⊢
    have := hh.put (W' := W.setRow (γ i0).g (splice cur.toList ((γ i0).b + off) us).toArray) (G' := γ i0) (e' := .grow t sz ver' (splice c off l)) (i := i0) (by rw [upd_id]; exact hx) (by simp [World.setRow]) rfl rfl rfl
      (fun j _ hj => Sx.setRow_other W _ _ j (fun q => hj _ he (by rw [q]; rfl))) (fun g hg => ⟨.inl ⟨_, he, by simpa [KO.fp] using hg⟩, by
        simp only [KO.fp, Option.some.injEq] at hg; subst hg; simp only [World.setRow, Array.size_modify]; exact (hh.fresh _ _ _ he rfl).2⟩) ?_
    · rw [upd_id] at this; exact this
    · rw [upd_id]
      refine ⟨_, setRow_heap W _ cur _ t _ hc, by rw [Sx.splice_length]; exact r1, by simp [Sx.splice_length, r2], r3, ?_⟩
      rw [Sx.splice_length]
      have e : ((splice cur.toList ((γ i0).b + off) us).drop (γ i0).b).take c.length = splice ((cur.toList.drop (γ i0).b).take c.length) off us := by
        apply List.ext_getElem?
        intro j
        rw [List.getElem?_take, List.getElem?_drop, Sx.splice_get _ _ _ _ (by simp; omega), Sx.splice_get _ _ _ _ (by simp; omega)]
        by_cases hj : j < c.length
        · rw [if_pos hj]
          by_cases h1 : off ≤ j ∧ j < off + us.length
          · rw [if_pos h1, if_pos (by omega)]
            congr 1; omega
          · rw [if_neg h1, if_neg (by omega), List.getElem?_take, if_pos hj, List.getElem?_drop]
        · rw [if_neg hj, if_neg (by omega), List.getElem?_take, if_neg hj]
      simp only [List.toList_toArray] at *
      rw [e]
      exact (hcL.splice hL hfit).ext hx
  · cases h

theorem store_ok (r : Rep E P nt mk F S.T.get γ a W) {n : Nat} {y z : Operand} (hc : cmpK P o.op = some (.store n y z)) {l : List KV} {i : Nat} {e : KO} (h : kcells n (ev F z) = some l) (h1 : wrp S.T (ev F y) l = some (i, e)) (h2 : setE S i e = some S') : OkW E P o a W S.T.get γ (.v undef) S' := by
  obtain ⟨t, ho, hz, _⟩ := inv_store (cmpK1_old hc rfl)
  obtain ⟨us, hus, hL, hlen, h1c⟩ := kcells_spec h (r.ev z)
  obtain ⟨g, off, cur, tt, hv, hg, hfit, hx, hh⟩ := wrp_ok r.heap (r.ev y) hL h1 h2
  refine ⟨undef, _, γ, .inr ⟨?_, rfl⟩, by simp [Is], hx, hh⟩
  have := Sx.run_storeAt (P := P) (W := W) (off := off) hz hus hlen h1c hg (by omega)
  simp [execOp, ho, hv, this]

def newE (S : KS) (e : KO) : Option (Nat × KS) := match S.T.get S.n with
  | some _ => none
  | none => (match Tr.set 40 S.T S.n e with | some T => some (S.n, ⟨T, S.n + 1⟩) | none => none)
theorem newE_get {i : Nat} {e : KO} (h : newE S e = some (i, S')) : S.T.get i = none ∧ S'.T.get = upd S.T.get i (some e) := by
  unfold newE at h; split at h
  · cases h
  · rename_i hn
    split at h
    · rename_i T hT
      injection h with h; injection h with h1 h2; subst h1; subst h2
      exact ⟨hn, by funext j; rw [Tr.get_set 40 hT]; rfl⟩
    · cases h

theorem newCells (hh : HeapOk E P S.T.get γ W) {t : TypeId} {l : List KV} {us : List Value} {i : Nat} (hL : IsL S.T.get γ l us) (h : newE S (.cells t l) = some (i, S')) :
    ∃ γ', (γ' i).g = W.heap.size ∧ Fixd S'.T.get i ∧ Ext S.T.get γ S'.T.get γ' ∧ HeapOk E P S'.T.get γ' (W.alloc (.cells us.toArray t)) := by
  obtain ⟨hn, ek⟩ := newE_get h
  refine ⟨upd γ i ⟨W.heap.size, 0, 0⟩, by rw [upd_self], ⟨.cells t l, by rw [ek, upd_self], rfl⟩, by rw [ek]; exact Ext.new hn _ _, ?_⟩
  rw [ek]
  exact hh.new hn _ _ _ rfl ⟨us.toArray, heap_alloc_new W _, by simpa using hL.ext (Ext.new hn _ _)⟩

theorem alloc_ok (r : Rep E P nt mk F S.T.get γ a W) {t : TypeId} {z : List Value} (hc : cmpK P o.op = some (.alloc t z)) {i : Nat} (h : newE S (.cells t (z.map .v)) = some (i, S')) : OkW E P o a W S.T.get γ (.p i 0) S' := by
  obtain ⟨ho, hz⟩ := inv_alloc (cmpK1_old hc rfl)
  obtain ⟨v, hv, hcv⟩ := Sx.run_zero hz W
  obtain ⟨γ', hg, hf, hx, hh⟩ := newCells r.heap (IsL.vals z) h
  refine ⟨.pointer (some ⟨W.heap.size, 0, none⟩), _, γ', .inl ?_, by simp only [Is]; exact ⟨hf, by rw [hg]⟩, hx, hh⟩
  simp only [execOp, ho, Instr.alloc, Sem.run_bind, hv, Result.andThen_ok, newVar, newRow, run_newObj, Sem.run_pure, hcv, Sem.run_map]
  rfl
theorem box_ok (r : Rep E P nt mk F S.T.get γ a W) {t : TypeId} {n : Nat} {y : Operand} (hc : cmpK P o.op = some (.box t n y)) {l : List KV} {i : Nat} (h1 : kcells n (ev F y) = some l) (h : newE S (.cells t l) = some (i, S')) : OkW E P o a W S.T.get γ (.p i 0) S' := by
  obtain ⟨ho, hz⟩ := inv_box (cmpK1_old hc rfl)
  obtain ⟨us, hus, hL, _, _⟩ := kcells_spec h1 (r.ev y)
  obtain ⟨γ', hg, hf, hx, hh⟩ := newCells r.heap hL h
  refine ⟨.pointer (some ⟨W.heap.size, 0, none⟩), _, γ', .inl ?_, by simp only [Is]; exact ⟨hf, by rw [hg]⟩, hx, hh⟩
  simp only [execOp, ho, Instr.box, Sem.run_bind, Result.andThen_ok, newVar, newRow, run_newObj, Sem.run_pure, hus, Sem.run_map]
  rfl

def kfill (F : Tr KV) : List KV → List (Nat × Nat × Operand) → Option (List KV)
  | l, [] => some l
  | l, (off, n, x) :: r => match kcells n (ev F x) with
    | some c => (match putL l off c with | some l' => kfill F l' r | none => none)
    | none => none
theorem kfill_spec {place : Nat → Option (Nat × Nat)} (r : Rep E P nt mk F S.T.get γ a W) : ∀ (qs : List (Nat × Operand)) (ps : List (Nat × Nat × Operand)) (cells : List Value) (l l' : List KV), IsL S.T.get γ l cells → kfill F l ps = some l' →
    qs.length = ps.length → (∀ (j : Nat) (q : Nat × Operand) (p : Nat × Nat × Operand), qs[j]? = some q → ps[j]? = some p → q.2 = p.2.2 ∧ place q.1 = some (p.1, p.2.1)) →
    ∃ out, Instr.fill place cells.toArray (qs.map fun q => (q.1, a.eval q.2)) = some out ∧ IsL S.T.get γ l' out.toList
  | [], [], cells, l, l', hL, hx, _, _ => by simp [kfill] at hx; subst hx; exact ⟨cells.toArray, rfl, by simpa using hL⟩
  | [], _ :: _, _, _, _, _, _, h, _ => by simp at h
  | _ :: _, [], _, _, _, _, _, h, _ => by simp at h
  | (i, x) :: qs, (off, n, y) :: ps, cells, l, l', hL, hx, hlen, hp => by
    obtain ⟨h1, h2⟩ := hp 0 _ _ rfl rfl
    simp only at h1 h2
    subst h1
    simp only [kfill] at hx
    split at hx
    case h_2 => cases hx
    rename_i c hc
    split at hx
    case h_2 => cases hx
    rename_i l2 hpl
    obtain ⟨us, hus, hU, hun, _⟩ := kcells_spec hc (r.ev x)
    obtain ⟨hfit, rfl⟩ := putL_spec _ _ _ _ hpl
    have hll := hL.length
    have hcl := hU.length
    have hstep := Sx.fillStep (cells := cells.toArray) (vs := us.toArray) (off := off) (by simp; omega)
    have hL' := hL.splice (off := off) hU hfit
    obtain ⟨out, ho, hO⟩ := kfill_spec r qs ps (splice cells off us) (splice l off c) l' hL' hx (by simpa using hlen) (fun j q p e1 e2 => hp (j + 1) q p (by simpa using e1) (by simpa using e2))
    refine ⟨out, ?_, hO⟩
    simp only [List.map_cons]
    unfold Instr.fill
    simp only [h2, hus]
    rw [if_neg (by simp; omega)]
    rw [← ho]
    congr 1
    rw [← Array.toList_inj]
    simpa using hstep

theorem build_ok (r : Rep E P nt mk F S.T.get γ a W) {z : List Value} {ps : List (Nat × Nat × Operand)} (hc : cmpK P o.op = some (.build z ps)) {l : List KV} (h : kfill F (z.map .v) ps = some l) : OkP P o a S.T.get γ (.a l) := by
  obtain ⟨t, parts, ho, hz, hh⟩ := inv_build (cmpK1_old hc rfl)
  obtain ⟨v, hv, hvc⟩ := Sx.run_zero' hz
  have e : (parts.map fun (i, x) => (i, a.eval x)).toList = parts.toList.map fun q => (q.1, a.eval q.2) := by simp
  rcases hh with ⟨fs, ht, hall, hcv⟩ | ⟨n, el, m, ht, hm, rfl⟩
  · obtain ⟨hlen, hp⟩ := Sx.cvS_spec _ _ hcv
    have hall : ∀ f ∈ fs, (szT P f.type).isSome = true := fun f hf => by simpa using Array.all_eq_true_iff_forall_mem.1 hall f hf
    obtain ⟨out, ho', hO⟩ := kfill_spec (place := ((fs.map fun f => (f.offset, (szT P f.type).getD 0))[·]?)) r parts.toList ps z _ l (IsL.vals z) h hlen (fun j q p e1 e2 => by
      obtain ⟨h1, f, h2, h3, h4⟩ := hp j q p e1 e2
      refine ⟨h1, ?_⟩
      simp [h2, h3, h4])
    refine ⟨.agg out, fun W2 => ?_, by simp only [Is]; exact ⟨out.toList, hO, by simp⟩⟩
    simp only [execOp, ho, Instr.build, Sem.run_bind, hv, Result.andThen_ok, run_underlying ht, Sx.run_places (t := t) hall, hvc, e, ho', Sem.run_pure]
  · obtain ⟨out, ho', hO⟩ := kfill_spec (place := fun i => some (i * m, m)) r parts.toList _ z _ l (IsL.vals z) h (by simp) (fun j q p e1 e2 => by
      simp at e2
      obtain ⟨x, y, hx, rfl⟩ := e2
      simp [hx] at e1; subst e1; simp)
    refine ⟨.agg out, fun W2 => ?_, by simp only [Is]; exact ⟨out.toList, hO, by simp⟩⟩
    simp only [execOp, ho, Instr.build, Sem.run_bind, hv, Result.andThen_ok, run_underlying ht, Sx.run_sizeOf hm, hvc, e, ho', Sem.run_pure]
end
end Go.Kx
