/- The runner: strings.Builder, by the contracts of WriteString and String. -/
import Derived.Test.YtfgdmcnlbgbleaaDoorKxAll
set_option linter.unusedSimpArgs false
set_option linter.unusedVariables false
set_option linter.unnecessarySimpa false
namespace Go.Kx
open Go

structure Bld where
  fw : Nat
  fs : Nat
  tB : TypeId
  tE : TypeId
structure BAt (T e : TypeId) (b : Nat) (p v : Value) (bs : List Value) (w : World) : Prop where
  blk : w.heap[b]? = some (.cells #[p, v] T (0, 0))
  own : w.ownsRow 0 e 1 v bs.length bs
  ne : v.ownBlock ≠ some b
def bytesV (s : ByteArray) : List Value := s.data.toList.map fun b => Value.int .u8 b.toNat
structure BldOk (P : Program) (B : Bld) : Prop where
  wok : Sx.fnOk P B.fw = true
  sok : Sx.fnOk P B.fs = true
  write : ∀ (b : Nat) (p v : Value) (bs : List Value) (s : ByteArray) (w : World), (p = .pointer none ∨ p = .pointer (some ⟨b, 0, none⟩)) → BAt B.tB B.tE b p v bs w → bs.length + s.size ≤ 140737488355328 →
    Sx.CallsV P B.fw [.pointer (some ⟨b, 0, none⟩), .string s] w fun u w' => u = .tuple #[.int .i64 s.size, .nilIface] ∧ ∃ v', BAt B.tB B.tE b (.pointer (some ⟨b, 0, none⟩)) v' (bs ++ bytesV s) w' ∧
      (w'.os = w.os ∧ w'.tape = w.tape ∧ w'.output = w.output ∧ w.heap.size ≤ w'.heap.size ∧ ∀ j, j < w.heap.size → j ≠ b → v.ownBlock ≠ some j → w'.heap[j]? = w.heap[j]?) ∧ (v'.ownBlock = v.ownBlock ∨ v'.ownBlock = some w.heap.size)
  str : ∀ (b g : Nat) (p : Value) (cap : Nat) (l : List UInt8) (w : World), BAt B.tB B.tE b p (.slice (some ⟨g, 0, none⟩) l.length cap) (l.map fun b => Value.int .u8 b.toNat) w → l ≠ [] →
    Sx.CallsV P B.fs [.pointer (some ⟨b, 0, none⟩)] w fun u w' => u = .string ⟨⟨l⟩⟩ ∧ w'.os = w.os ∧ w'.tape = w.tape ∧ w'.output = w.output ∧ w'.heap.size = w.heap.size ∧ ∀ j, j ≠ g → w'.heap[j]? = w.heap[j]?

def selfP (i : Nat) : KV → Bool
  | .v (.pointer none) => true
  | .p k 0 => Nat.beq k i
  | _ => false
def kWrite (B : Bld) (S : KS) : List KV → KA
  | [.p i 0, .v (.string ⟨⟨s⟩⟩)] => (match S.T.get i with
    | some (.cells t [kp, kw]) => (match Nat.beq t B.tB, selfP i kp with
      | true, true => (match kw with
        | .v (.slice none 0 0) => (match Nat.blt 0 s.length, Nat.ble s.length 140737488355328, newE S (.grow B.tE 1 0 (bytesK s)) with
          | true, true, some (j, S1) => (match setE S1 i (.cells t [.p i 0, .w j 0 0 s.length]) with
            | some S2 => some (.t [.v (.int .i64 s.length), .v .nilIface], S2)
            | none => none)
          | _, _, _ => none)
        | .w j ver 0 n => (match S.T.get j with
          | some (.grow t' sz ver' l) => (match Nat.beq t' B.tE, Nat.beq sz 1, Nat.beq ver' ver, Nat.beq (Nat.mod ver 2) 0, Nat.beq l.length n, Nat.blt 0 n, Nat.ble (n + s.length) 140737488355328, Nat.beq i j with
            | true, true, true, true, true, true, true, false => (match setE S j (.grow B.tE 1 (ver + 2) (l ++ bytesK s)) with
              | some S1 => (match setE S1 i (.cells t [.p i 0, .w j (ver + 2) 0 (n + s.length)]) with
                | some S2 => some (.t [.v (.int .i64 s.length), .v .nilIface], S2)
                | none => none)
              | none => none)
            | _, _, _, _, _, _, _, _ => none)
          | _ => none)
        | _ => none)
      | _, _ => none)
    | _ => none)
  | _ => none
def kString (B : Bld) (S : KS) : List KV → KA
  | [.p i 0] => (match S.T.get i with
    | some (.cells t [_, .w j ver 0 n]) => (match S.T.get j with
      | some (.grow t' sz ver' l) => (match Nat.beq t B.tB, Nat.beq t' B.tE, Nat.beq sz 1, Nat.beq ver' ver, Nat.beq (Nat.mod ver 2) 0, Nat.beq l.length n, Nat.blt 0 n, Nat.beq i j with
        | true, true, true, true, true, true, true, false => (match toB l, setE S j .gone with
          | some bs, some S1 => (match setE S1 i .gone with
            | some S2 => some (.v (.string ⟨⟨bs⟩⟩), S2)
            | none => none)
          | _, _ => none)
        | _, _, _, _, _, _, _, _ => none)
      | _ => none)
    | _ => none)
  | _ => none

section
variable {E : KE} {P : Program} {S S' S1 : KS} {γ : Nat → Gh} {W W' : World} {kv : KV}

theorem bput {i j : Nat} {tB : TypeId} {l1 l2 : List KV} (hh : HeapOk E P S.T.get γ W) (he : S.T.get i = some (.cells tB l1)) (hij : i ≠ j) {ej : KO} {Gj : Gh} (hx1 : Ext S.T.get γ (upd S.T.get j (some ej)) (upd γ j Gj))
    (hsz : W.heap.size ≤ W'.heap.size) (ho : W'.os = W.os) (ht : W'.tape = W.tape) (hu : W'.output = W.output)
    (hw : ∀ q, q < W.heap.size → q ≠ (γ i).g → (∀ e, S.T.get j = some e → e.fp (γ j) ≠ some q) → W'.heap[q]? = W.heap[q]?)
    (hf : ∀ g, ej.fp Gj = some g → ((∃ e, S.T.get j = some e ∧ e.fp (γ j) = some g) ∨ W.heap.size ≤ g) ∧ g < W'.heap.size ∧ g ≠ (γ i).g)
    (hej : EntryOk P (upd S.T.get j (some ej)) (upd γ j Gj) (fun g => W'.heap[g]?) Gj ej)
    {c2 : Array Value} (hb : W'.heap[(γ i).g]? = some (.cells c2 tB (0, 0))) (hl2 : IsL (upd S.T.get j (some ej)) (upd γ j Gj) l2 c2.toList) :
    Ext S.T.get γ (upd (upd S.T.get j (some ej)) i (some (.cells tB l2))) (upd γ j Gj) ∧ HeapOk E P (upd (upd S.T.get j (some ej)) i (some (.cells tB l2))) (upd γ j Gj) W' := by
  obtain ⟨c1, hc1, hL1⟩ := hh.ents i _ he
  have hc1 : W.heap[(γ i).g]? = some (.cells c1 tB (0, 0)) := hc1
  have hlt := (hh.fresh i _ _ he rfl).2
  let W1 : World := { W' with heap := W'.heap.setIfInBounds (γ i).g (.cells c1 tB (0, 0)) }
  have w1 : ∀ q, q ≠ (γ i).g → W1.heap[q]? = W'.heap[q]? := fun q hq => by
    show (W'.heap.setIfInBounds (γ i).g (.cells c1 tB (0, 0)))[q]? = _
    rw [Array.getElem?_setIfInBounds_ne (Ne.symm hq)]
  have w1s : W1.heap[(γ i).g]? = some (.cells c1 tB (0, 0)) := by
    show (W'.heap.setIfInBounds (γ i).g (.cells c1 tB (0, 0)))[(γ i).g]? = _
    rw [Array.getElem?_setIfInBounds_self_of_lt (by omega)]
  have h1 := hh.put (W' := W1) (i := j) (e' := ej) (G' := Gj) hx1 (by show W.heap.size ≤ (W'.heap.setIfInBounds _ _).size; simpa using hsz) ho ht hu
    (fun q hq hq2 => by
      by_cases hqi : q = (γ i).g
      · subst hqi; rw [w1s, hc1]
      · rw [w1 q hqi]; exact hw q hq hqi hq2)
    (fun g hg => ⟨(hf g hg).1, by show g < (W'.heap.setIfInBounds _ _).size; simpa using (hf g hg).2.1⟩)
    (hej.mono (Ext.refl _ _) fun g hg => w1 g (hf g hg).2.2)
  have hei : (upd S.T.get j (some ej)) i = some (.cells tB l1) := by rw [upd_ne _ _ hij]; exact he
  have hgi : (upd γ j Gj) i = γ i := upd_ne _ _ hij
  have hx2 : Ext (upd S.T.get j (some ej)) (upd γ j Gj) (upd (upd S.T.get j (some ej)) i (some (.cells tB l2))) (upd (upd γ j Gj) i ((upd γ j Gj) i)) := Ext.fixd hei rfl rfl rfl
  have h2 := h1.put (W' := W') (i := i) (e' := .cells tB l2) (G' := (upd γ j Gj) i) hx2 (by show (W'.heap.setIfInBounds _ _).size ≤ _; simp) rfl rfl rfl
    (fun q hq hq2 => by
      have : q ≠ (γ i).g := fun e => hq2 _ hei (by rw [hgi, e]; rfl)
      rw [w1 q this])
    (fun g hg => by
      simp only [KO.fp, Option.some.injEq] at hg
      subst hg
      exact ⟨.inl ⟨_, hei, rfl⟩, by rw [hgi]; omega⟩)
    ⟨c2, by rw [hgi]; exact hb, hl2.ext hx2⟩
  rw [upd_id] at hx2 h2
  exact ⟨hx1.trans hx2, h2⟩
theorem bytes_app (s : List UInt8) (h : KH) (γ : Nat → Gh) : IsL h γ (bytesK s) (bytesV ⟨⟨s⟩⟩) := by
  rw [bytesK_eq]; exact IsL.vals _
theorem bytesV_len (s : List UInt8) : (bytesV ⟨⟨s⟩⟩).length = s.length := by simp [bytesV]
theorem bytesK_len (s : List UInt8) : (bytesK s).length = s.length := by rw [bytesK_eq]; simp
theorem kWrite_ok {B : Bld} (hB : BldOk P B) (hh : HeapOk E P S.T.get γ W) {args : List KV} {vs : List Value} (hL : IsL S.T.get γ args vs) (h : kWrite B S args = some (kv, S')) :
    Sx.CallsV P B.fw vs W fun v W' => ∃ γ', Is S'.T.get γ' kv v ∧ Ext S.T.get γ S'.T.get γ' ∧ HeapOk E P S'.T.get γ' W' := by
  unfold kWrite at h
  split at h
  case h_2 => cases h
  rename_i i s
  simp only [IsL] at hL
  obtain ⟨v1, r1, hv1, ⟨v2, r2, hv2, rfl, rfl⟩, rfl⟩ := hL
  simp only [Is] at hv1 hv2
  subst hv2
  obtain ⟨_, rfl⟩ := hv1
  split at h
  case h_2 => cases h
  rename_i t kp kw he
  split at h
  case h_2 => cases h
  rename_i b1 b2
  have b1 := Nat.eq_of_beq_eq_true b1
  subst b1
  obtain ⟨c1, hc1, hL1⟩ := hh.ents i _ he
  have hc1 : W.heap[(γ i).g]? = some (.cells c1 B.tB (0, 0)) := hc1
  simp only [IsL] at hL1
  obtain ⟨p, r3, hp, ⟨v, r4, hv, rfl, rfl⟩, e3⟩ := hL1
  have ec : c1 = #[p, v] := by
    have := congrArg List.toArray e3; simpa using this
  subst ec
  have hps : p = .pointer none ∨ p = .pointer (some ⟨(γ i).g, 0, none⟩) := by
    unfold selfP at b2
    split at b2
    · simp only [Is] at hp; exact .inl hp
    · have := Nat.eq_of_beq_eq_true b2
      subst this
      simp only [Is] at hp; exact .inr hp.2
    · cases b2
  have hlt := (hh.fresh i _ _ he rfl).2
  split at h
  · -- the first text
    simp only [Is] at hv
    subst hv
    split at h
    case h_2 => cases h
    rename_i j S1 h0 hle hn
    split at h
    case h_2 => cases h
    rename_i S2 hs2
    injection h with h; injection h with q1 q2; subst q1; subst q2
    have h0 := blt_lt h0
    have hle := Nat.le_of_ble_eq_true hle
    obtain ⟨hnone, ek⟩ := newE_get hn
    have ek2 := setE_get hs2
    have hij : i ≠ j := fun e => by rw [e, hnone] at he; cases he
    refine (hB.write (γ i).g p (.slice none 0 0) [] ⟨⟨s⟩⟩ W hps ⟨hc1, ⟨rfl, .inl ⟨rfl, rfl⟩⟩, by simp [Value.ownBlock]⟩ (by show 0 + (⟨s⟩ : Array UInt8).size ≤ _; simp; omega)).mono fun u W' hu => ?_
    obtain ⟨rfl, v', ⟨k1, k2, k3⟩, ⟨m1, m2, m3, m4, m5⟩, k4⟩ := hu
    obtain ⟨o1, o2⟩ := k2
    simp only [List.nil_append] at o1 o2
    rcases o2 with ⟨_, hz⟩ | ⟨g, cap, cur, rfl, _, hg, n1, n2, n3, n4⟩
    · rw [bytesV_len] at hz; omega
    have hgw : g = W.heap.size := by
      rcases k4 with k4 | k4
      · cases k4
      · injection k4
    have hx1 : Ext S.T.get γ (upd S.T.get j (some (.grow B.tE 1 0 (bytesK s)))) (upd γ j ⟨g, cap, 0⟩) := Ext.new hnone _ _
    have hgl := (Array.getElem?_eq_some_iff.1 hg).1
    have hbl := bytesV_len s
    obtain ⟨x2, hh2⟩ := bput (W' := W') (l2 := [.p i 0, .w j 0 0 s.length]) hh he hij hx1 m4 m1 m2 m3 (fun q hq hqi _ => m5 q hq hqi (by simp [Value.ownBlock]))
      (fun g' hg' => by simp only [KO.fp, Option.some.injEq] at hg'; subst hg'; exact ⟨.inr (by omega), hgl, by omega⟩)
      ⟨cur, hg, by show (bytesK s).length ≤ cap * 1; rw [bytesK_len]; omega, by show 0 + cap * 1 = cur.size; omega, ⟨n2, by show 0 < cap; omega, fun _ => rfl⟩, by
        show IsL _ _ _ ((List.drop 0 cur.toList).take _)
        rw [List.drop_zero, bytesK_len]
        have : cur.toList.take s.length = bytesV ⟨⟨s⟩⟩ := by rw [← n4, hbl, Nat.mul_one]
        rw [this]; exact bytes_app s _ _⟩ k1
      (IsL.cons (by simp only [Is]; exact ⟨⟨_, by rw [upd_ne _ _ hij]; exact he, rfl⟩, by rw [upd_ne _ _ hij]⟩) (IsL.cons (by
        have := w_mk (T := S1.T) (γ := upd γ j ⟨g, cap, 0⟩) (n := s.length) (i := j) (by rw [ek, upd_self]) (upd_self _ _ _) (by omega)
        rw [ek] at this
        rw [hbl]; exact this) IsL.nil))
    refine ⟨_, ?_, by rw [ek2, ek]; exact x2, by rw [ek2, ek]; exact hh2⟩
    simp only [Is]
    exact ⟨[_, _], IsL.cons (by simp only [Is]; congr 1) (IsL.cons (by simp only [Is]) IsL.nil), rfl⟩
  · -- one behind others
    rename_i j ver n
    split at h
    case h_2 => cases h
    rename_i t' sz ver' l hej
    split at h
    case h_2 => cases h
    rename_i d1 d2 d3 d4 d5 d6 d7 d8
    split at h
    case h_2 => cases h
    rename_i S1 hs1
    split at h
    case h_2 => cases h
    rename_i S2 hs2
    injection h with h; injection h with q1 q2; subst q1; subst q2
    have d1 := Nat.eq_of_beq_eq_true d1; have d2 := Nat.eq_of_beq_eq_true d2; have d3 := Nat.eq_of_beq_eq_true d3
    have d4 := Nat.eq_of_beq_eq_true d4; have d5 := Nat.eq_of_beq_eq_true d5; have d6 := blt_lt d6; have d7 := Nat.le_of_ble_eq_true d7
    have hij := Nat.ne_of_beq_eq_false d8
    subst d1; subst d2; subst d3; subst d5
    have ek := setE_get hs1
    have ek2 := setE_get hs2
    obtain ⟨cur, hcur, e1, e2, ⟨e6, e4, e5⟩, hLc⟩ := hh.ents j _ hej
    have hcur : W.heap[(γ j).g]? = some (.cells cur B.tE (0, 0)) := hcur
    have hb0 := e5 d4
    rw [hb0] at hLc e2
    rw [List.drop_zero] at hLc
    obtain ⟨A, hv1, hle, hA⟩ := w_at hv hej
    have hA := hA e4
    rw [hb0] at hA
    simp only [Nat.zero_mul, Nat.add_zero] at hA
    subst hA
    rw [Nat.sub_zero] at hv1
    subst hv1
    have hgg : (γ j).g ≠ (γ i).g := fun e => hh.dist j i _ _ (γ j).g (Ne.symm hij) hej he rfl (by rw [e]; rfl)
    have hbl : (cur.toList.take l.length).length = l.length := by simp; omega
    refine (hB.write (γ i).g p _ (cur.toList.take l.length) ⟨⟨s⟩⟩ W hps ⟨hc1, by rw [hbl]; exact ⟨by rw [hbl, Nat.mul_one], .inr ⟨(γ j).g, (γ j).c, cur, rfl, Nat.zero_le _, hcur, by omega, e6, by omega, by rw [Nat.mul_one]⟩⟩, by simp only [Value.ownBlock, Option.map_some]; intro e; injection e with e; exact hgg e⟩ (by rw [hbl]; show l.length + (⟨s⟩ : Array UInt8).size ≤ _; simpa using d7)).mono fun u W' hu => ?_
    obtain ⟨rfl, v', ⟨k1, k2, k3⟩, ⟨m1, m2, m3, m4, m5⟩, k4⟩ := hu
    obtain ⟨o1, o2⟩ := k2
    have hlen : (cur.toList.take l.length ++ bytesV ⟨⟨s⟩⟩).length = l.length + s.length := by rw [List.length_append, hbl, bytesV_len]
    rcases o2 with ⟨_, hz⟩ | ⟨g, cap, cur', rfl, _, hg, n1, n2, n3, n4⟩
    · omega
    have hgl := (Array.getElem?_eq_some_iff.1 hg).1
    have hgw : g = (γ j).g ∨ g = W.heap.size := by
      rcases k4 with k4 | k4
      · simp only [Value.ownBlock, Option.map_some] at k4; injection k4 with k4; exact .inl k4
      · simp only [Value.ownBlock, Option.map_some] at k4; injection k4 with k4; exact .inr k4
    have hgi : g ≠ (γ i).g := by
      rcases hgw with h | h
      · rw [h]; exact hgg
      · omega
    have hx1 : Ext S.T.get γ (upd S.T.get j (some (.grow B.tE 1 (ver' + 2) (l ++ bytesK s)))) (upd γ j ⟨g, cap, 0⟩) := Ext.grown hej (by omega) (fun e => by omega)
    obtain ⟨x2, hh2⟩ := bput (W' := W') (l2 := [.p i 0, .w j (ver' + 2) 0 (l.length + s.length)]) hh he hij hx1 m4 m1 m2 m3 (fun q hq hqi hqj => m5 q hq hqi (hqj _ hej))
      (fun g' hg' => by
        simp only [KO.fp, Option.some.injEq] at hg'; subst hg'
        refine ⟨?_, hgl, hgi⟩
        rcases hgw with h | h
        · exact .inl ⟨_, hej, by rw [h]; rfl⟩
        · exact .inr (by omega))
      ⟨cur', hg, by show (l ++ bytesK s).length ≤ cap * 1; rw [List.length_append, bytesK_len]; omega, by show 0 + cap * 1 = cur'.size; omega, ⟨n2, by show 0 < cap; omega, fun _ => rfl⟩, by
        show IsL _ _ _ ((List.drop 0 cur'.toList).take _)
        rw [List.drop_zero, List.length_append, bytesK_len]
        rw [hlen, Nat.mul_one] at n4
        rw [n4]
        exact (hLc.ext hx1).append (bytes_app s _ _)⟩ k1
      (IsL.cons (by simp only [Is]; exact ⟨⟨_, by rw [upd_ne _ _ hij]; exact he, rfl⟩, by rw [upd_ne _ _ hij]⟩) (IsL.cons (by
        have := w_mk (T := S1.T) (γ := upd γ j ⟨g, cap, 0⟩) (n := l.length + s.length) (i := j) (by rw [ek, upd_self]) (upd_self _ _ _) (by omega)
        rw [ek] at this
        rw [hlen]; exact this) IsL.nil))
    refine ⟨_, ?_, by rw [ek2, ek]; exact x2, by rw [ek2, ek]; exact hh2⟩
    simp only [Is]
    exact ⟨[_, _], IsL.cons (by simp only [Is]; congr 1) (IsL.cons (by simp only [Is]) IsL.nil), rfl⟩
  · cases h
theorem toB_is {h : KH} : ∀ {l : List KV} {bs : List UInt8} {us : List Value}, toB l = some bs → IsL h γ l us → us = bs.map fun b => Value.int .u8 b.toNat
  | [], bs, us, e, hL => by
    simp [toB] at e; subst e
    simpa [IsL] using hL
  | k :: l, bs, us, e, hL => by
    unfold toB at e
    split at e
    · simp at *
    · rename_i n l' heq
      injection heq with e1 e2; subst e1; subst e2
      split at e
      case h_2 => cases e
      rename_i r hb hr
      injection e with e; subst e
      have hb := blt_lt hb
      simp only [IsL] at hL
      obtain ⟨v, r', hv, hr', rfl⟩ := hL
      simp only [Is] at hv
      subst hv
      rw [toB_is hr hr', List.map_cons]
      congr 2
      rw [UInt8.toNat_ofNat']
      show Int.ofNat n = ((n % 256 : Nat) : Int)
      rw [Nat.mod_eq_of_lt hb]; rfl
    · cases e
theorem kString_ok {B : Bld} (hB : BldOk P B) (hh : HeapOk E P S.T.get γ W) {args : List KV} {vs : List Value} (hL : IsL S.T.get γ args vs) (h : kString B S args = some (kv, S')) :
    Sx.CallsV P B.fs vs W fun v W' => ∃ γ', Is S'.T.get γ' kv v ∧ Ext S.T.get γ S'.T.get γ' ∧ HeapOk E P S'.T.get γ' W' := by
  unfold kString at h
  split at h
  case h_2 => cases h
  rename_i i
  simp only [IsL] at hL
  obtain ⟨v1, r1, hv1, rfl, rfl⟩ := hL
  simp only [Is] at hv1
  obtain ⟨_, rfl⟩ := hv1
  split at h
  case h_2 => cases h
  rename_i t kp j ver n he
  split at h
  case h_2 => cases h
  rename_i t' sz ver' l hej
  split at h
  case h_2 => cases h
  rename_i d0 d1 d2 d3 d4 d5 d6 d8
  split at h
  case h_2 => cases h
  rename_i bs S1 hbs hs1
  split at h
  case h_2 => cases h
  rename_i S2 hs2
  injection h with h; injection h with q1 q2; subst q1; subst q2
  have d0 := Nat.eq_of_beq_eq_true d0; have d1 := Nat.eq_of_beq_eq_true d1; have d2 := Nat.eq_of_beq_eq_true d2; have d3 := Nat.eq_of_beq_eq_true d3
  have d4 := Nat.eq_of_beq_eq_true d4; have d5 := Nat.eq_of_beq_eq_true d5; have d6 := blt_lt d6
  have hij := Nat.ne_of_beq_eq_false d8
  subst d0; subst d1; subst d2; subst d3; subst d5
  have ek := setE_get hs1
  have ek2 := setE_get hs2
  obtain ⟨c1, hc1, hL1⟩ := hh.ents i _ he
  have hc1 : W.heap[(γ i).g]? = some (.cells c1 B.tB (0, 0)) := hc1
  simp only [IsL] at hL1
  obtain ⟨p, r3, hp, ⟨v, r4, hv, rfl, rfl⟩, e3⟩ := hL1
  have ec : c1 = #[p, v] := by
    have := congrArg List.toArray e3; simpa using this
  subst ec
  obtain ⟨cur, hcur, e1, e2, ⟨e6, e4, e5⟩, hLc⟩ := hh.ents j _ hej
  have hcur : W.heap[(γ j).g]? = some (.cells cur B.tE (0, 0)) := hcur
  have hb0 := e5 d4
  rw [hb0] at hLc e2
  rw [List.drop_zero] at hLc
  obtain ⟨A, hv1, hle, hA⟩ := w_at hv hej
  have hA := hA e4
  rw [hb0] at hA
  simp only [Nat.zero_mul, Nat.add_zero] at hA
  subst hA
  rw [Nat.sub_zero] at hv1
  subst hv1
  have hgg : (γ j).g ≠ (γ i).g := fun e => hh.dist j i _ _ (γ j).g (Ne.symm hij) hej he rfl (by rw [e]; rfl)
  have hbl : (cur.toList.take l.length).length = l.length := by simp; omega
  have hbytes := toB_is hbs hLc
  have hbn : bs.length = l.length := by
    have := congrArg List.length hbytes
    rw [hbl] at this; simpa using this.symm
  refine (hB.str (γ i).g (γ j).g p (γ j).c bs W ⟨by rw [hbn]; exact hc1, ?_, by simp only [Value.ownBlock, Option.map_some]; intro e; injection e with e; exact hgg e⟩ (by intro e; rw [e] at hbn; simp at hbn; omega)).mono fun u W' hu => ?_
  · rw [← hbytes, hbl, hbn]
    exact ⟨by rw [hbl, Nat.mul_one], .inr ⟨(γ j).g, (γ j).c, cur, rfl, Nat.zero_le _, hcur, by omega, e6, by omega, by rw [Nat.mul_one]⟩⟩
  obtain ⟨rfl, m1, m2, m3, m4, m5⟩ := hu
  have hx1 : Ext S.T.get γ (upd S.T.get j (some .gone)) (upd γ j (γ j)) := Ext.bury hej _
  have h1 := hh.put (W' := W') (i := j) (e' := .gone) (G' := γ j) hx1 (by omega) m1 m2 m3 (fun q _ hq => m5 q (fun e => hq _ hej (by rw [e]; rfl))) (fun g hg => by simp [KO.fp] at hg) trivial
  rw [upd_id] at hx1 h1
  have hei : (upd S.T.get j (some .gone)) i = some (.cells B.tB [kp, .w j ver' 0 l.length]) := by rw [upd_ne _ _ hij]; exact he
  have hx2 : Ext (upd S.T.get j (some .gone)) γ (upd (upd S.T.get j (some .gone)) i (some .gone)) (upd γ i (γ i)) := Ext.fixd hei rfl rfl rfl
  have h2 := h1.put (W' := W') (i := i) (e' := .gone) (G' := γ i) hx2 (Nat.le_refl _) rfl rfl rfl (fun q _ _ => rfl) (fun g hg => by simp [KO.fp] at hg) trivial
  rw [upd_id] at hx2 h2
  exact ⟨γ, by simp only [Is], by rw [ek2, ek]; exact hx1.trans hx2, by rw [ek2, ek]; exact h2⟩
end
end Go.Kx
