/- The runner, part 6: append, slices made, bytes. -/
import Derived.Test.YtfgdmcnlbgbleaaDoorKxVal
set_option linter.unusedSimpArgs false
set_option linter.unusedVariables false
set_option linter.unnecessarySimpa false
namespace Go.Kx
open Go
open Go.Sx (Grow Keep XC XS XI XK CK NK cmp theOrder Jump Ran SV SO kEq cmpK cmpK0 cmpK1 isNew pureK readK xk xk_sound ResK ResP ResR Res svc nth takeL dropL szT isAggT zeroT bytesT splice)

section
open Go.Sx
theorem inv_app {P : Program} {op : Op} {t : TypeId} {sz bytes : Nat} {d x : Operand} (h : cmpK0 P op = some (.app t sz bytes d x)) : ∃ T z, op = .call { callee := .builtin .append, args := #[d, x], argTypes := #[T, T] } ∧ P.underlying T = some (.slice t) ∧ szT P t = some sz ∧ bytesT P t = some bytes ∧ zeroT P t = some z ∧ z.length = sz ∧ 0 < sz := by
  unfold cmpK0 cmpBin cmpEqa cmpNil cmpUn cmpConv cmpSub cmpIxv cmpIdx cmpFld cmpFldv cmpLoad cmpStore cmpAlloc cmpBox cmpBuild cmpBuildS at h
  repeat' (split at h)
  all_goals first | (cases h; done) | skip
  rename_i c
  unfold cmpCall at h
  split at h
  · rename_i y z T T' h1 h2 h3
    unfold cmpApp at h
    split at h
    case h_2 => cases h
    rename_i e e' hT _
    split at h
    case h_2 => cases h
    rename_i n b zl hn hb hz
    split at h
    case h_2 => cases h
    rename_i hzl htt
    injection h with h; injection h with q1 q2 q3 q4 q5
    subst q1; subst q2; subst q3; subst q4; subst q5
    have htt : T = T' := by simpa using htt
    subst htt
    refine ⟨T, zl, ?_, hT, hn, hb, hz, by simpa using hzl, Nat.succ_pos _⟩
    obtain ⟨cc, aa, tt⟩ := c
    simp at h1 h2 h3
    subst h1
    have e1 : aa = #[y, z] := by rw [← Array.toArray_toList (xs := aa), h2]
    have e2 : tt = #[T, T] := by rw [← Array.toArray_toList (xs := tt), h3]
    rw [e1, e2]
  · repeat' (split at h)
    all_goals first | (cases h; done) | (injection h with h; cases h)
  · cases h
theorem inv_b2s {P : Program} {op : Op} {x : Operand} (h : cmpK0 P op = some (.b2s x)) : ∃ t t' e, op = .convert t t' x ∧ P.underlying t = some (.slice e) ∧ P.underlying e = some (.int .u8) ∧ P.underlying t' = some .string := by
  unfold cmpK0 cmpBin cmpEqa cmpNil cmpUn cmpConv cmpSub cmpIxv cmpIdx cmpFld cmpFldv cmpLoad cmpStore cmpAlloc cmpBox cmpBuild cmpBuildS cmpCall cmpApp at h
  repeat' (split at h)
  all_goals first | (cases h; done) | (injection h with h; injection h with h0; subst h0; exact ⟨_, _, _, rfl, by assumption, by assumption, by assumption⟩)
end

section
variable {E : KE} {P : Program} {nt : Nat} {mk : List Nat} {F : Tr KV} {S S' : KS} {γ : Nat → Gh} {a : Act} {W : World} {o : Oper} {kv : KV} {x : XK}

def rdS (G : List (Nat × List Value)) (T : Tr KO) (sz : Nat) : KV → Option (Nat × List KV)
  | .s i off m _ => (match T.get i with
    | some (.cells _ l) => (match takeL (m * sz) (dropL off l) with | some ks => some (m, ks) | none => none)
    | _ => none)
  | .w i ver o m => (match T.get i with
    | some (.grow _ sz' ver' l) => (match Nat.beq ver' ver, Nat.beq sz' sz, takeL (m * sz) (dropL (o * sz) l) with | true, true, some ks => some (m, ks) | _, _, _ => none)
    | _ => none)
  | .v (.slice none 0 _) => some (0, [])
  | .v (.slice (some ⟨g, off, none⟩) m _) => (match findG G g with
    | some l => (match takeL (m * sz) (dropL off l) with | some us => some (m, us.map .v) | none => none)
    | none => none)
  | _ => none

theorem rdS_spec (hE : E.Ok) (hh : HeapOk E P S.T.get γ W) {sz : Nat} {k : KV} {v : Value} {m : Nat} {ks : List KV} (hi : Is S.T.get γ k v) (h : rdS E.G S.T sz k = some (m, ks)) :
    ∃ A c us, v = .slice A m c ∧ us.length = m * sz ∧ IsL S.T.get γ ks us ∧ ((A = none ∧ m = 0) ∨ ∃ B, A = some B ∧ ∀ j u, us[j]? = some u → W.cell? (B.add j) = some u) := by
  unfold rdS at h
  split at h
  · rename_i i off n c
    split at h
    case h_2 => cases h
    rename_i t l he
    split at h
    case h_2 => cases h
    rename_i ks' htk
    injection h with h; injection h with h1 h2; subst h1; subst h2
    have hp : rdp E.G S.T (.p i off) (n * sz) = some ks' := by simp only [rdp, he]; exact htk
    simp only [Is] at hi
    obtain ⟨g, off', us, hv, hl, hc, hL⟩ := rdp_spec hE hh (v := .pointer (some ⟨(γ i).g, off, none⟩)) (by simp only [Is]; exact ⟨hi.1, by first | rfl | trivial⟩) hp
    injection hv with hv; injection hv with hv
    exact ⟨_, c, us, hi.2, hl, hL, .inr ⟨_, rfl, by rw [hv]; exact hc⟩⟩
  · rename_i i ver o' n
    split at h
    case h_2 => cases h
    rename_i t sz' ver' l he
    split at h
    case h_2 => cases h
    rename_i ks' b1 b2 htk
    injection h with h; injection h with h1 h2; subst h1; subst h2
    have b1 := Nat.eq_of_beq_eq_true b1; have b2 := Nat.eq_of_beq_eq_true b2
    subst b1; subst b2
    obtain ⟨A, hv, hle, hA⟩ := w_at hi he
    have hcur : curB S.T i ver' = true := by unfold curB; rw [he]; simp
    have hp : rdp E.G S.T (.q i ver' (o' * sz')) (n * sz') = some ks' := by simp only [rdp, he, Nat.beq_refl]; exact htk
    obtain ⟨g, off', us, hv', hl, hc, hL⟩ := rdp_spec hE hh (q_mk hcur) hp
    injection hv' with hv'; injection hv' with hv'
    refine ⟨_, _, us, hv, hl, hL, ?_⟩
    by_cases e : o' < (γ i).c
    · refine .inr ⟨A, rfl, ?_⟩
      rw [hA e, hv']; exact hc
    · have hn : n = 0 := by omega
      subst hn
      have : us = [] := List.eq_nil_of_length_eq_zero (by simpa using hl)
      subst this
      exact .inr ⟨A, rfl, fun j u hj => by simp at hj⟩
  · injection h with h; injection h with h1 h2; subst h1; subst h2
    simp only [Is] at hi
    exact ⟨none, _, [], hi, by simp, IsL.nil, .inl ⟨rfl, rfl⟩⟩
  · rename_i g off n c
    split at h
    case h_2 => cases h
    rename_i l he
    split at h
    case h_2 => cases h
    rename_i us' htk
    injection h with h; injection h with h1 h2; subst h1; subst h2
    have hp : rdp E.G S.T (.v (.pointer (some ⟨g, off, none⟩))) (n * sz) = some (us'.map .v) := by simp only [rdp, he, htk]
    simp only [Is] at hi
    obtain ⟨g', off', us, hv, hl, hc, hL⟩ := rdp_spec hE hh (v := .pointer (some ⟨g, off, none⟩)) (by simp [Is]) hp
    injection hv with hv; injection hv with hv
    exact ⟨_, c, us, hi, hl, hL, .inr ⟨_, rfl, by rw [hv]; exact hc⟩⟩
  · cases h

theorem grownAs (hh : HeapOk E P S.T.get γ W) {t : TypeId} {sz : Nat} {us : List Value} {l : List KV} {i n c : Nat} {W' : World} {cur : Array Value} {e : KO} {G' : Gh} (ek : S'.T.get = upd S.T.get i (some e)) (he : e = .grow t sz n l)
    (hx : Ext S.T.get γ (upd S.T.get i (some e)) (upd γ i G')) (hL : IsL S.T.get γ l us) (hc : G'.c = c)
    (hs : W.heap.size ≤ W'.heap.size) (ho : W'.os = W.os) (ht : W'.tape = W.tape) (hu : W'.output = W.output)
    (hw : ∀ j, j < W.heap.size → (∀ e, S.T.get i = some e → e.fp (γ i) ≠ some j) → W'.heap[j]? = W.heap[j]?)
    (hf : ((∃ e, S.T.get i = some e ∧ e.fp (γ i) = some G'.g) ∨ W.heap.size ≤ G'.g) ∧ G'.g < W'.heap.size)
    (hcell : W'.heap[G'.g]? = some (.cells cur t (0, 0))) (h1 : us.length ≤ c * sz) (h2 : G'.b + c * sz = cur.size) (h3 : c ≤ maxLen) (h4 : 0 < c) (h6 : Nat.mod n 2 = 0 → G'.b = 0) (h5 : (cur.toList.drop G'.b).take us.length = us) :
    HeapOk E P S'.T.get (upd γ i G') W' := by
  subst he
  rw [ek]
  refine hh.put hx hs ho ht hu hw (fun g hg => ?_) ⟨cur, hcell, by rw [hc, ← hL.length]; exact h1, by rw [hc]; exact h2, ⟨by rw [hc]; exact h3, by rw [hc]; exact h4, h6⟩, ?_⟩
  · simp only [KO.fp, Option.some.injEq] at hg; subst hg; exact hf
  · rw [← hL.length, h5]; exact hL.ext hx

def nver (ver o : Nat) : Nat := match Nat.mod ver 2 with
  | 0 => (match o with
    | 0 => ver + 2
    | _ + 1 => ver + 1)
  | _ + 1 => ver + 2
theorem nver_gt (ver o : Nat) : ver < nver ver o := by
  unfold nver
  split
  · split <;> omega
  · omega
theorem nver_even {ver o : Nat} (h : Nat.mod (nver ver o) 2 = 0) : o = 0 ∧ Nat.mod ver 2 = 0 := by
  have h : nver ver o % 2 = 0 := h
  unfold nver at h
  cases hm : Nat.mod ver 2 with
  | zero =>
    have hm' : ver % 2 = 0 := hm
    rw [hm] at h
    cases o with
    | zero => exact ⟨rfl, rfl⟩
    | succ k =>
      have h : (ver + 1) % 2 = 0 := h
      omega
  | succ k =>
    have hm' : ver % 2 = k + 1 := hm
    rw [hm] at h
    have h : (ver + 2) % 2 = 0 := h
    omega
def kapp (G : List (Nat × List Value)) (F : Tr KV) (S : KS) (t : TypeId) (sz bytes : Nat) (d x : KV) : KA :=
  match rdS G S.T sz x with
  | none => none
  | some (0, _) => (match d with
    | .v (.slice none 0 0) => some (d, S)
    | .s _ _ n c => (match Nat.ble n c with | true => some (d, S) | false => none)
    | .w i ver _ _ => (match curB S.T i ver with | true => some (d, S) | false => none)
    | _ => none)
  | some (m + 1, news) => (match okCs news with
    | false => none
    | true => (match d with
      | .v (.slice none 0 0) => (match Nat.ble (m + 1) maxLen, Nat.ble ((m + 1) * bytes) 140737488355328, newE S (.grow t sz 0 news) with
        | true, true, some (i, S') => some (.w i 0 0 (m + 1), S')
        | _, _, _ => none)
      | .s i off n c => (match rdS G S.T sz d, Nat.ble (n + (m + 1)) c with
        | some (_, olds), false => (match Nat.ble (n + (m + 1)) maxLen, Nat.ble ((n + (m + 1)) * bytes) 140737488355328, newE S (.grow t sz 0 (olds ++ news)) with
          | true, true, some (i, S') => some (.w i 0 0 (n + (m + 1)), S')
          | _, _, _ => none)
        | _, true => (match off, S.T.get i with
          | 0, some (.cells t' l) => (match Nat.beq t' t, putL l (n * sz) news with
            | true, some l' => (match setE S i (.cells t' l') with | some S' => some (.s i 0 (n + (m + 1)) c, S') | none => none)
            | _, _ => none)
          | _, _ => none)
        | _, _ => none)
      | .w i ver o n => (match S.T.get i, rdS G S.T sz d with
        | some (.grow t' _ _ _), some (_, olds) => (match Nat.beq t' t, Nat.ble (n + (m + 1)) maxLen, Nat.ble ((n + (m + 1)) * bytes) 140737488355328, setE S i (.grow t sz (nver ver o) (olds ++ news)) with
          | true, true, true, some S' => some (.w i (nver ver o) 0 (n + (m + 1)), S')
          | _, _, _, _ => none)
        | _, _ => none)
      | _ => none))

theorem w_mk' {T : Tr KO} {i ver n sz c b : Nat} {t : TypeId} {l : List KV} {g : Nat} (e : T.get i = some (.grow t sz ver l)) (hg : γ i = ⟨g, c, b⟩) (hn : n ≤ c) : Is T.get γ (.w i ver 0 n) (.slice (some ⟨g, b, none⟩) n c) := by
  simp only [Is]
  refine ⟨⟨_, _, rfl⟩, .inl ⟨t, sz, ver, l, e, Nat.le_refl _, fun _ => ⟨_, by rw [hg]; rfl, by rw [hg]; simpa using hn, fun _ => by rw [hg]; simp⟩⟩⟩
theorem w_mk {T : Tr KO} {i ver n sz c : Nat} {t : TypeId} {l : List KV} {g : Nat} (e : T.get i = some (.grow t sz ver l)) (hg : γ i = ⟨g, c, 0⟩) (hn : n ≤ c) : Is T.get γ (.w i ver 0 n) (.slice (some ⟨g, 0, none⟩) n c) := w_mk' e hg hn
theorem run_append_room_off (t ty e : TypeId) (i : TypeInfo) (ht : P.underlying t = some (.slice e)) (hi : P.info? e = some i)
    (g off sLen sCap : Nat) (cur : Array Value) (hg : W.heap[g]? = some (.cells cur e (0, 0)))
    (A : Addr) (m c : Nat) (news : List Value) (hl : news.length = m * i.size) (hnews : ∀ j u, news[j]? = some u → W.cell? (A.add j) = some u) (h1 : ∀ u ∈ news, u.oneCell' = true)
    (hroom : sLen + m ≤ sCap) (hfit : off + sLen * i.size + news.length ≤ cur.size) :
    (Builtin.append_ #[t, t] ty #[.slice (some ⟨g, off, none⟩) sLen sCap, .slice (some A) m c]).run P W =
      .ok (.slice (some ⟨g, off, none⟩) (sLen + m) sCap) (W.setRow g (Sx.splice cur.toList (off + sLen * i.size) news).toArray) := by
  have hf := run_firstCells_some (P := P) W i.size m A m c news hl hnews
  have hst := run_storeCells_at P g (off + sLen * i.size) e news 0 cur W hg (by simpa using hfit) h1
  simp only [Nat.add_zero] at hst
  rw [Sx.splice_eq _ _ _ (by simpa using hfit)]
  simp [Builtin.append_, run_underlying ht, sizeOf, typeInfo, hi, Builtin.lenOf, hroom, hf, Addr.add_lit, hst]

theorem fresh_cur (z : Array Value) {us : List Value} {c sz : Nat} {n : Nat} (hz : z.size = sz) (hl : us.length = n * sz) (hn : n ≤ c) :
    (us.toArray ++ Builtin.zeroCells z (c - n)).size = c * sz ∧ (us.toArray ++ Builtin.zeroCells z (c - n)).toList.take us.length = us := by
  constructor
  · rw [Array.size_append, size_zeroCells, hz, List.size_toArray, hl, ← Nat.add_mul]; congr 1; omega
  · rw [Array.toList_append]; simp

theorem app_ok (hE : E.Ok) (r : Rep E P nt mk F S.T.get γ a W) {t : TypeId} {sz bytes : Nat} {y z : Operand} (hc : cmpK P o.op = some (.app t sz bytes y z)) (h : kapp E.G F S t sz bytes (ev F y) (ev F z) = some (kv, S')) : OkW E P o a W S.T.get γ kv S' := by
  obtain ⟨T, zl, ho, hT, hsz, hby, hz, hzl, hpos⟩ := inv_app (cmpK1_old hc rfl)
  obtain ⟨i, hi⟩ : ∃ i, P.info? t = some i := by
    unfold szT at hsz; cases hq : P.info? t with
    | none => simp [hq] at hsz
    | some i => exact ⟨i, rfl⟩
  have hisz : i.size = sz := by simpa [szT, hi] using hsz
  have hiby : i.bytes = bytes := by simpa [bytesT, hi] using hby
  obtain ⟨zv, hzv, hzc⟩ : ∃ zv, i.zero = some zv ∧ zv.cells.size = sz := by
    unfold zeroT at hz; rw [hi] at hz
    simp only at hz
    split at hz
    · rename_i zv hzv; injection hz with hz; exact ⟨zv, hzv, by rw [← hz] at hzl; simpa using hzl⟩
    · cases hz
  subst hisz; subst hiby
  have run : ∀ v W', (Builtin.append_ #[T, T] o.type #[a.eval y, a.eval z]).run P W = .ok v W' → (execOp a.eval o).run P W = .ok (.value v) W' := by
    intro v W' hr; simp [execOp, ho, resolve, invoke, builtin, hr]
  have hvy := r.ev y
  have hvz := r.ev z
  generalize ev F y = d at h hvy
  generalize ev F z = q at h hvz
  unfold kapp at h
  split at h
  · cases h
  · -- nothing appended
    rename_i ks hrd
    obtain ⟨A, c, us, hv, hul, hL, hA⟩ := rdS_spec hE r.heap hvz hrd
    have hus : us = [] := List.eq_nil_of_length_eq_zero (by simpa using hul)
    have key : ∀ A n c', a.eval y = .slice A n c' → n ≤ c' → OkW E P o a W S.T.get γ d S := by
      intro A' n c' hy hn
      refine ⟨a.eval y, W, γ, .inl (run _ _ ?_), hvy, Ext.refl _ _, r.heap⟩
      rcases hA with ⟨rfl, _⟩ | ⟨B, rfl, _⟩
      · cases A' <;> simp [Builtin.append_, run_underlying hT, sizeOf, typeInfo, hi, Builtin.lenOf, Builtin.firstCells, hv, hy, hn, storeCells]
      · cases A' <;> simp [Builtin.append_, run_underlying hT, sizeOf, typeInfo, hi, Builtin.lenOf, Builtin.firstCells, loadCells, loadCellsFrom, hv, hy, hn, storeCells]
    split at h
    · injection h with h; injection h with h1 h2; subst h1; subst h2
      have hvy' := hvy; simp only [Is] at hvy'
      exact key _ _ _ hvy' (Nat.le_refl _)
    · split at h
      · rename_i hb
        injection h with h; injection h with h1 h2; subst h1; subst h2
        have hvy' := hvy; simp only [Is] at hvy'
        exact key _ _ _ hvy'.2 (Nat.le_of_ble_eq_true hb)
      · cases h
    · split at h
      · rename_i hb
        injection h with h; injection h with h1 h2; subst h1; subst h2
        obtain ⟨t1, sz1, l1, e1⟩ := curB_spec hb
        obtain ⟨A', hvy', hle, _⟩ := w_at hvy e1
        exact key _ _ _ hvy' (by omega)
      · cases h
    · cases h
  · rename_i m news hrd
    obtain ⟨A, c, us, hv, hul, hL, hA⟩ := rdS_spec hE r.heap hvz hrd
    obtain ⟨B, rfl, hcells⟩ : ∃ B, A = some B ∧ ∀ j u, us[j]? = some u → W.cell? (B.add j) = some u := by
      rcases hA with ⟨_, h0⟩ | hA
      · omega
      · exact hA
    split at h
    · cases h
    rename_i hok
    have h1c := okCs_one hok hL
    split at h
    · -- onto nil
      split at h
      case h_2 => cases h
      rename_i j S1 b1 b2 hnew
      injection h with h; injection h with h1 h2; subst h1; subst h2
      have b1 := Nat.le_of_ble_eq_true b1; have b2 := Nat.le_of_ble_eq_true b2
      simp only [Is] at hvy
      have b1' : m + 1 ≤ 9223372036854775807 := by simp only [maxLen] at b1; omega
      have hr := run_append_nil (P := P) W T o.type t i zv hT hi hzv B (m + 1) c us hul hcells (by omega) (by omega) (by omega)
      have hge := grownCap_ge W (m + 1) 0 t
      have hcm := grownCap_le_maxLen W (m + 1) 0 t b1
      obtain ⟨f1, f2⟩ := fresh_cur (us := us) zv.cells hzc hul hge
      obtain ⟨hn, ek⟩ := newE_get hnew
      refine ⟨_, _, upd γ j ⟨W.heap.size, grownCap W (m + 1) 0 t, 0⟩, .inl (run _ _ (by rw [hvy, hv]; exact hr)), ?_, by rw [ek]; exact Ext.new hn _ _, ?_⟩
      · exact w_mk (by rw [ek, upd_self]) (upd_self _ _ _) hge
      · exact grownAs (W' := W.drew.alloc _) r.heap ek rfl (Ext.new hn _ _) hL rfl (by simp) rfl rfl rfl (fun j hj _ => heap_alloc_old W.drew _ j hj) ⟨.inr (Nat.le_refl _), by simp⟩ (heap_alloc_new W.drew _) (by rw [hul]; exact Nat.mul_le_mul_right _ hge) ((Nat.zero_add _).trans f1.symm) hcm (Nat.lt_of_lt_of_le (by omega) hge) (fun _ => rfl) f2
    · -- onto a full row
      rename_i i0 off n c0
      split at h
      case h_3 => cases h
      case h_2 =>
        rename_i hroom
        have hroom := Nat.le_of_ble_eq_true hroom
        split at h
        case h_2 => cases h
        rename_i t' l hent
        split at h
        case h_2 => cases h
        rename_i l' b0 hput
        split at h
        case h_2 => cases h
        rename_i S1 hset
        injection h with h; injection h with h1 h2; subst h1; subst h2
        have b0 := Nat.eq_of_beq_eq_true b0
        subst b0
        have hvy' := hvy; simp only [Is] at hvy'
        have hw : wrp S.T (.p i0 (n * i.size)) news = some (i0, .cells t' l') := by simp only [wrp, hent, hput]
        have hip : Is S.T.get γ (.p i0 (n * i.size)) (.pointer (some ⟨(γ i0).g, n * i.size, none⟩)) := by simp only [Is]; exact ⟨hvy'.1, by first | rfl | trivial⟩
        obtain ⟨g, off', cur, tt, hpv, hg, hfit, hxx, hh⟩ := wrp_ok r.heap hip hL hw hset
        injection hpv with hpv; injection hpv with hpv; injection hpv with q1 q2 q3
        subst q1; subst q2
        obtain ⟨cur2, hc2, _⟩ := r.heap.ents _ _ hent
        have hc2 : W.heap[(γ i0).g]? = some (.cells cur2 t' (0, 0)) := hc2
        rw [hg] at hc2; injection hc2 with hc2; injection hc2 with q4 q5 q6; subst q4; subst q5
        have hr := run_append_room (P := P) W T o.type tt i hT hi (γ i0).g n c0 cur hg B (m + 1) c us hul hcells h1c hroom hfit
        have e2 : splice cur.toList (n * i.size) us = cur.toList.take (n * i.size) ++ us ++ cur.toList.drop (n * i.size + us.length) := by
          rw [Sx.splice_eq _ _ _ (by simpa using hfit)]
        rw [← e2] at hr
        refine ⟨_, _, γ, .inl (run _ _ (by rw [hvy'.2, hv]; exact hr)), ?_, hxx, hh⟩
        simp only [Is]
        exact ⟨(hxx.fix _ hvy'.1).1, by first | rfl | trivial⟩
      rename_i n0 olds hrd2 hroom
      split at h
      case h_2 => cases h
      rename_i j S1 b1 b2 hnew
      injection h with h; injection h with h1 h2; subst h1; subst h2
      have b1 := Nat.le_of_ble_eq_true b1; have b2 := Nat.le_of_ble_eq_true b2
      have hroom : c0 < n + (m + 1) := by
        rcases Nat.lt_or_ge c0 (n + (m + 1)) with hlt | hge
        · exact hlt
        · rw [Nat.ble_eq_true_of_le hge] at hroom; cases hroom
      obtain ⟨A2, c2, us2, hv2, hul2, hL2, hA2⟩ := rdS_spec hE r.heap hvy hrd2
      have hvy' := hvy; simp only [Is] at hvy'
      rw [hvy'.2] at hv2; injection hv2 with q1 q2 q3; subst q2; subst q3
      obtain ⟨B2, hB2, hcells2⟩ : ∃ B2, A2 = some B2 ∧ ∀ j u, us2[j]? = some u → W.cell? (B2.add j) = some u := by
        rcases hA2 with ⟨h0, _⟩ | hA2
        · rw [h0] at q1; cases q1
        · exact hA2
      rw [hB2] at q1; injection q1 with q1; subst q1
      have b1' : n + (m + 1) ≤ 9223372036854775807 := by simp only [maxLen] at b1; omega
      have hr := run_append_grow (P := P) W T o.type t i zv hT hi hzv _ n c0 us2 hul2 hcells2 B (m + 1) c us hul hcells hroom (by omega) (growslice_fits hroom b2)
      have hge := grownCap_ge W (n + (m + 1)) c0 t
      have hcm := grownCap_le_maxLen W (n + (m + 1)) c0 t b1
      have hlen : (us2 ++ us).length = (n + (m + 1)) * i.size := by rw [List.length_append, hul, hul2, ← Nat.add_mul]
      obtain ⟨f1, f2⟩ := fresh_cur (us := us2 ++ us) zv.cells hzc hlen hge
      obtain ⟨hn, ek⟩ := newE_get hnew
      have earr : us2.toArray ++ us.toArray = (us2 ++ us).toArray := by simp
      rw [earr] at hr
      refine ⟨_, _, upd γ j ⟨W.heap.size, grownCap W (n + (m + 1)) c0 t, 0⟩, .inl (run _ _ (by rw [hvy'.2, hv]; exact hr)), ?_, by rw [ek]; exact Ext.new hn _ _, ?_⟩
      · exact w_mk (by rw [ek, upd_self]) (upd_self _ _ _) hge
      · exact grownAs (W' := W.drew.alloc _) r.heap ek rfl (Ext.new hn _ _) (hL2.append hL) rfl (by simp) rfl rfl rfl (fun j hj _ => heap_alloc_old W.drew _ j hj) ⟨.inr (Nat.le_refl _), by simp⟩ (heap_alloc_new W.drew _) (by rw [hlen]; exact Nat.mul_le_mul_right _ hge) ((Nat.zero_add _).trans f1.symm) hcm (Nat.lt_of_lt_of_le (by omega) hge) (fun _ => rfl) f2
    · -- onto one that grows
      rename_i i0 ver o0 n
      split at h
      case h_2 => cases h
      rename_i t' sz' ver' l' n0 olds hent hrd2
      split at h
      case h_2 => cases h
      rename_i S1 b0 b1 b2 hset
      injection h with h; injection h with h1 h2; subst h1; subst h2
      have b0 := Nat.eq_of_beq_eq_true b0
      have b1 := Nat.le_of_ble_eq_true b1; have b2 := Nat.le_of_ble_eq_true b2
      subst b0
      have ek := setE_get hset
      have hrd2' := hrd2
      unfold rdS at hrd2'
      simp only [hent] at hrd2'
      split at hrd2'
      case h_2 => cases hrd2'
      rename_i ks' c1 c2 htk
      have c1 := Nat.eq_of_beq_eq_true c1; have c2 := Nat.eq_of_beq_eq_true c2
      subst c1; subst c2
      obtain ⟨A2, cc, us2, hv2, hul2, hL2, hA2⟩ := rdS_spec hE r.heap hvy hrd2
      obtain ⟨A3, hv3, hle, hA3⟩ := w_at hvy hent
      obtain ⟨cur, hcur, e1, e2, ⟨e3, e4, e5⟩, hLc⟩ := r.heap.ents _ _ hent
      rw [hv3] at hv2; injection hv2 with q1 q2 q3; subst q2; subst q3
      obtain ⟨B2, hB2, hcells2⟩ : ∃ B2, A2 = some B2 ∧ ∀ j u, us2[j]? = some u → W.cell? (B2.add j) = some u := by
        rcases hA2 with ⟨h0, _⟩ | hA2
        · rw [h0] at q1; cases q1
        · exact hA2
      rw [hB2] at q1; injection q1 with q1; subst q1
      have hlen : (us2 ++ us).length = (n + (m + 1)) * i.size := by rw [List.length_append, hul, hul2, ← Nat.add_mul]
      have b1' : n + (m + 1) ≤ 9223372036854775807 := by simp only [maxLen] at b1; omega
      by_cases hroom : n + (m + 1) ≤ (γ i0).c - o0
      · have hA := hA3 (by omega)
        subst hA
        have hmul : (o0 + (n + (m + 1))) * i.size ≤ (γ i0).c * i.size := Nat.mul_le_mul_right _ (by omega)
        rw [Nat.add_mul, Nat.add_mul] at hmul
        have hfit : (γ i0).b + o0 * i.size + n * i.size + us.length ≤ cur.size := by have hul1 : us.length = (m + 1) * i.size := hul; rw [hul1, ← e2]; omega
        have hr := run_append_room_off (P := P) (W := W) T o.type t' i hT hi (γ i0).g ((γ i0).b + o0 * i.size) n ((γ i0).c - o0) cur hcur B (m + 1) c us hul hcells h1c hroom hfit
        have hus2 : us2 = (cur.toList.drop ((γ i0).b + o0 * i.size)).take (n * i.size) := by
          apply List.ext_getElem?
          intro j
          by_cases hj : j < us2.length
          · have h1 := hcells2 j _ (List.getElem?_eq_getElem hj)
            rw [Sx.add_lit, cell_lit _ _ _ hcur] at h1
            rw [List.getElem?_eq_getElem hj, List.getElem?_take, if_pos (by omega), List.getElem?_drop, ← h1]
            simp
          · rw [List.getElem?_eq_none (by omega), List.getElem?_eq_none (by simp; omega)]
        have hx : Ext S.T.get γ (upd S.T.get i0 (some (.grow t' i.size (nver ver' o0) (olds ++ news)))) (upd γ i0 ⟨(γ i0).g, (γ i0).c - o0, (γ i0).b + o0 * i.size⟩) := Ext.grown hent (Nat.le_of_lt (nver_gt _ _)) (fun e => absurd e (Nat.ne_of_gt (nver_gt _ _)))
        refine ⟨_, _, upd γ i0 ⟨(γ i0).g, (γ i0).c - o0, (γ i0).b + o0 * i.size⟩, .inl (run _ _ (by rw [hv3, hv]; exact hr)), ?_, by rw [ek]; exact hx, ?_⟩
        · exact w_mk' (by rw [ek, upd_self]) (upd_self _ _ _) hroom
        · refine grownAs (c := (γ i0).c - o0) (W' := W.setRow _ _) r.heap ek rfl hx (hL2.append hL) rfl (by simp [World.setRow]) rfl rfl rfl (fun j _ hj => Sx.setRow_other W _ _ j (fun q => hj _ hent (by rw [q]; rfl))) ⟨.inl ⟨_, hent, rfl⟩, by simp only [World.setRow, Array.size_modify]; exact (r.heap.fresh _ _ _ hent rfl).2⟩ (setRow_heap W _ cur _ t' _ hcur) (by rw [hlen]; exact Nat.mul_le_mul_right _ hroom) ?_ (by omega) (by omega) (fun he => by obtain ⟨q1, q2⟩ := nver_even he; have := e5 q2; simp [q1, this]) ?_
          · simp only [List.size_toArray, Sx.splice_length, Array.length_toList]
            rw [← e2, Nat.add_assoc, ← Nat.add_mul]
            congr 2; omega
          · simp only [List.toList_toArray]
            apply List.ext_getElem?
            intro j
            rw [List.getElem?_take, List.getElem?_drop, Sx.splice_get _ _ _ _ (by simpa using hfit)]
            by_cases hj : j < (us2 ++ us).length
            · rw [if_pos hj]
              rw [List.length_append] at hj
              by_cases hj2 : j < us2.length
              · rw [if_neg (by omega), List.getElem?_append_left hj2, hus2, List.getElem?_take, if_pos (by omega), List.getElem?_drop]
              · rw [if_pos (by omega), List.getElem?_append_right (by omega)]
                congr 1; omega
            · rw [if_neg hj, List.getElem?_eq_none (by omega)]
      · have hlt : (γ i0).c - o0 < n + (m + 1) := by omega
        have hr := run_append_grow (P := P) W T o.type t' i zv hT hi hzv _ n ((γ i0).c - o0) us2 hul2 hcells2 B (m + 1) c us hul hcells hlt (by omega) (growslice_fits hlt b2)
        have hge := grownCap_ge W (n + (m + 1)) ((γ i0).c - o0) t'
        have hcm := grownCap_le_maxLen W (n + (m + 1)) ((γ i0).c - o0) t' b1
        obtain ⟨f1, f2⟩ := fresh_cur (us := us2 ++ us) zv.cells hzc hlen hge
        have earr : us2.toArray ++ us.toArray = (us2 ++ us).toArray := by simp
        rw [earr] at hr
        have hx : Ext S.T.get γ (upd S.T.get i0 (some (.grow t' i.size (nver ver' o0) (olds ++ news)))) (upd γ i0 ⟨W.heap.size, grownCap W (n + (m + 1)) ((γ i0).c - o0) t', 0⟩) := Ext.grown hent (Nat.le_of_lt (nver_gt _ _)) (fun e => absurd e (Nat.ne_of_gt (nver_gt _ _)))
        refine ⟨_, _, upd γ i0 ⟨W.heap.size, grownCap W (n + (m + 1)) ((γ i0).c - o0) t', 0⟩, .inl (run _ _ (by rw [hv3, hv]; exact hr)), ?_, by rw [ek]; exact hx, ?_⟩
        · exact w_mk (by rw [ek, upd_self]) (upd_self _ _ _) hge
        · exact grownAs (W' := W.drew.alloc _) r.heap ek rfl hx (hL2.append hL) rfl (by simp) rfl rfl rfl (fun j hj _ => heap_alloc_old W.drew _ j hj) ⟨.inr (Nat.le_refl _), by simp⟩ (heap_alloc_new W.drew _) (by rw [hlen]; exact Nat.mul_le_mul_right _ hge) ((Nat.zero_add _).trans f1.symm) hcm (Nat.lt_of_lt_of_le (by omega) hge) (fun _ => rfl) f2
    · cases h
end
end Go.Kx
