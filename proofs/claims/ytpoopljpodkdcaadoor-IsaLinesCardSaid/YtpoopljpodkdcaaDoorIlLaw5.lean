/- The plain law: the line of any instruction is read as it; what is read as an instruction is its line. -/
import Derived.Test.YtpoopljpodkdcaaDoorIlPlain
import Derived.Test.YtpoopljpodkdcaaDoorIlLaw4
set_option linter.unusedSimpArgs false
set_option linter.unusedVariables false
set_option linter.unnecessarySimpa false
namespace Go.Proofs.YtpoopljpodkdcaaDoor
open Go Go.Sx Go.Isa
set_option maxRecDepth 100000

theorem setL_64 : ∀ (nm : List UInt8) (ws : List ByteArray) (x y : In), in64 x → setL x nm ws = some y → in64 y
  | [], ws, x, y, hx, h => by simp only [setL] at h; injection h with h; subst h; exact hx
  | c :: nm, [], x, y, hx, h => by simp [setL] at h
  | c :: nm, w :: ws, x, y, hx, h => by
    simp only [setL] at h
    split at h
    · rename_i n hn
      exact setL_64 nm ws _ y (setF_64 hx (Lib.atoiAll_bounds hn)) h
    · cases h
theorem try_said {x y : In} {nm : List UInt8} {ws : List ByteArray} {s : List UInt8} (hx : in64 x) (h : tryL x nm ws s = some y) : textL y = s ∧ in64 y := by
  unfold tryL at h
  split at h
  · split at h
    · rename_i z hz
      split at h
      · rename_i ht
        injection h with h; subst h
        exact ⟨ht, setL_64 _ _ _ _ hx hz⟩
      · cases h
    · cases h
  · cases h
theorem op_64 {op : Int} (h : is64 op) : in64 (opI op) := ⟨h, by simp [opI, is64], by simp [opI, is64], by simp [opI, is64], by simp [opI, is64]⟩
theorem find_said {s : List UInt8} {y : In} : ∀ (n : Nat) (op : Int), 0 ≤ op → op + n ≤ 100 → findL s n op = some y → textL y = s ∧ in64 y
  | 0, op, _, _, h => by simp [findL] at h
  | n + 1, op, h0, h1, h => by
    simp only [findL] at h
    split at h
    · split at h
      · rename_i z hz
        injection h with h; subst h
        exact try_said (op_64 ⟨by omega, by omega⟩) hz
      · exact find_said n (op + 1) (by omega) (by omega) h
    · exact find_said n (op + 1) (by omega) (by omega) h
theorem parse_said {s : List UInt8} {y : In} (h : parseL s = some y) : textL y = s ∧ in64 y := by
  unfold parseL at h
  split at h
  · exact try_said (op_64 (op := 0) ⟨by omega, by omega⟩) h
  · exact find_said 19 0 (by omega) (by omega) h
def setN (x : In) (z : In) : List UInt8 → In
  | [] => z
  | c :: nm => setN x (setF z c.toNat (fld x c.toNat)) nm
theorem setL_text {x : In} (hx : in64 x) : ∀ (nm : List UInt8) (z : In), setL z nm ((nm.map fun c => Lib.itoa (fld x c.toNat)).map fun p => (⟨⟨p⟩⟩ : ByteArray)) = some (setN x z nm)
  | [], z => rfl
  | c :: nm, z => by
    have h := fld64 hx c.toNat
    simp only [List.map_cons, setL, setN]
    rw [Il.atoi_itoa h.1 h.2]
    exact setL_text hx nm _
theorem argL_jn (w : List UInt8) (x : In) (nm : List UInt8) : w ++ argL x nm = Il.jn w (nm.map fun c => Lib.itoa (fld x c.toNat)) := by
  unfold argL Il.jn
  rw [List.flatMap_map]
theorem ws_text (w : List UInt8) (hw : Il.no32 w) (x : In) (nm : List UInt8) : wsL (w ++ argL x nm) = (⟨⟨w⟩⟩ : ByteArray) :: (nm.map fun c => Lib.itoa (fld x c.toNat)).map fun p => (⟨⟨p⟩⟩ : ByteArray) := by
  rw [argL_jn]
  have := Il.words_jn (nm.map fun c => Lib.itoa (fld x c.toNat)) w hw (fun p hp => by
    obtain ⟨c, _, rfl⟩ := List.mem_map.1 hp
    exact Il.itoa_no32 _)
  exact this
theorem try_text {x : In} (hx : in64 x) (w : List UInt8) (hw : Il.no32 w) (z : In) (nm : List UInt8) (hs : textL x = w ++ argL x nm) (hz : setN x z nm = x) : tryL z nm (wsL (textL x)) (textL x) = some x := by
  unfold tryL
  rw [hs, ws_text w hw, if_pos (by simp)]
  simp only [List.drop_succ_cons, List.drop_zero]
  rw [setL_text hx, hz]
  simp only
  rw [if_pos hs]
theorem w0_text (w : List UInt8) (hw : Il.no32 w) (x : In) (nm : List UInt8) : w0L (w ++ argL x nm) = w := by
  unfold w0L; rw [ws_text w hw]; rfl
theorem wds_no32 : ∀ w ∈ wds, Il.no32 w := by unfold Il.no32; decide
theorem wd_no32 (op : Int) : Il.no32 (wdL op) := by
  unfold wdL
  rw [List.getD_eq_getElem?_getD]
  cases e : wds[op.toNat]? with
  | none => intro c hc; simp at hc
  | some v => exact wds_no32 v (List.mem_of_getElem? e)
theorem wd_inj {j : Nat} {op : Int} (ho : isOp op = true) (hj : 1 ≤ j) (hj2 : (j : Int) < op) : wdL j ≠ wdL op := by
  have hr : 1 ≤ op ∧ op ≤ 18 := by rw [isOp, Bool.and_eq_true] at ho; exact ⟨of_decide_eq_true ho.1, of_decide_eq_true ho.2⟩
  obtain ⟨k, rfl⟩ : ∃ k : Nat, op = k := ⟨op.toNat, by omega⟩
  have h : ∀ (j k : Fin 19), 1 ≤ j.val → j.val < k.val → wdL (j.val : Int) ≠ wdL (k.val : Int) := by decide +kernel
  exact h ⟨j, by omega⟩ ⟨k, by omega⟩ hj (by simpa using hj2)
theorem find_text {s : List UInt8} {op : Int} (ho : isOp op = true) {x : In} (hw : w0L s = wdL op) (ht : tryL (opI op) (nmL op) (wsL s) s = some x) : ∀ (n j : Nat), n + j = 19 → (j : Int) ≤ op → findL s n (j : Int) = some x
  | 0, j, h, hj => by
    have hr : op ≤ 18 := by rw [isOp, Bool.and_eq_true] at ho; exact of_decide_eq_true ho.2
    omega
  | n + 1, j, h, hj => by
    have hr : 1 ≤ op ∧ op ≤ 18 := by rw [isOp, Bool.and_eq_true] at ho; exact ⟨of_decide_eq_true ho.1, of_decide_eq_true ho.2⟩
    simp only [findL]
    by_cases he : (j : Int) = op
    · rw [he, if_pos ⟨hr.1, hw.symm⟩, ht]
    · rw [if_neg]
      · have := find_text ho hw ht n (j + 1) (by omega) (by omega)
        rw [show ((j + 1 : Nat) : Int) = (j : Int) + 1 by omega] at this
        exact this
      · rintro ⟨k1, k2⟩
        exact wd_inj ho (j := j) (by omega) (by omega) (by rw [k2, hw])
theorem wd_raw {op : Int} (ho : isOp op = true) : wdL op ≠ rawW := by
  rcases isOp_cases ho with h | h | h | h | h | h | h | h | h | h | h | h | h | h | h | h | h | h <;> subst h <;> decide
theorem set_plain {x : In} (hp : plainB x = true) : setN x (opI x.op) (nmL x.op) = x := by
  obtain ⟨op, a, b, c, imm⟩ := x
  have hl : legalB ⟨op, a, b, c, imm⟩ = true := by rw [plainB, Bool.and_eq_true] at hp; exact hp.1
  have hop : isOp op = true := by
    simp only [legalB, Bool.and_eq_true] at hl
    exact hl.1.1.1
  simp only [plainB, Bool.and_eq_true, ok1, Bool.or_eq_true, beq_iff_eq] at hp
  obtain ⟨_, ⟨⟨⟨h1, h2⟩, h3⟩, h4⟩⟩ := hp
  rcases isOp_cases hop with h | h | h | h | h | h | h | h | h | h | h | h | h | h | h | h | h | h <;> subst h
  all_goals
    simp [hasL, nmL, Lib.indexByte, fld] at h1 h2 h3 h4
    simp [setN, nmL, setF, fld, opI, *]
theorem set_raw (x : In) : setN x zeroI rawN = x := by
  obtain ⟨op, a, b, c, imm⟩ := x
  rfl
theorem parse_text {x : In} (hx : in64 x) : parseL (textL x) = some x := by
  cases hp : plainB x with
  | true =>
    have hl : legalB x = true := by rw [plainB, Bool.and_eq_true] at hp; exact hp.1
    have hop : isOp x.op = true := by
      simp only [legalB, Bool.and_eq_true] at hl
      exact hl.1.1.1
    have hs : textL x = wdL x.op ++ argL x (nmL x.op) := by rw [textL, if_pos hp]
    have hw : w0L (textL x) = wdL x.op := by rw [hs, w0_text _ (wd_no32 _)]
    have ht := try_text hx (wdL x.op) (wd_no32 _) (opI x.op) (nmL x.op) hs (set_plain hp)
    have hr : 1 ≤ x.op := by rw [isOp, Bool.and_eq_true] at hop; exact of_decide_eq_true hop.1
    unfold parseL
    rw [if_neg (by rw [hw]; exact wd_raw hop)]
    exact find_text hop hw ht 19 0 rfl (by omega)
  | false =>
    have hs : textL x = rawW ++ argL x rawN := by rw [textL, if_neg (by rw [hp]; decide)]
    have hn : Il.no32 rawW := by unfold Il.no32; decide
    have hw : w0L (textL x) = rawW := by rw [hs, w0_text _ hn]
    unfold parseL
    rw [if_pos hw]
    exact try_text hx rawW hn zeroI rawN hs (set_raw x)
theorem text_len {x : In} (hx : in64 x) : (textL x).length ≤ 1000 := by
  unfold textL
  split
  · have := argL_len hx (nmL x.op)
    have := wd_len x.op
    have := (nm_ok x.op).1
    rw [List.length_append]; omega
  · have := argL_len hx rawN
    have : rawN.length = 5 := rfl
    have : rawW.length = 3 := rfl
    rw [List.length_append]; omega
end Go.Proofs.YtpoopljpodkdcaaDoor
