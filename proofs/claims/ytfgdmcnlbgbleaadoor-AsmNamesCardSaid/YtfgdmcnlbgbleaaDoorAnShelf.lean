/- The kit's shelf contracts of strconv.Atoi and strconv.Itoa, laid at this program (the text printed by tools/ShText), as answers that the runner knows. -/
import Derived.Shelf.Strconv.AtoiAll
import Derived.Shelf.Strconv.Itoa3
import Derived.Test.YtfgdmcnlbgbleaaDoorProg
import Derived.Test.YtfgdmcnlbgbleaaDoorKxTab
import Derived.KernelRfl
set_option linter.unusedSimpArgs false
set_option linter.unusedVariables false
set_option linter.unnecessarySimpa false
namespace Go.Proofs.YtfgdmcnlbgbleaaDoor
open Go Go.Sx Go.Shelf Go.Kx
set_option maxRecDepth 100000

def lays172_ren : Go.Shelf.Ren := ⟨fun | 129 => 71 | 171 => 13 | 172 => 53 | 205 => 94 | 243 => 26 | 244 => 67 | 245 => 68 | 246 => 41 | 247 => 83 | 279 => 84 | 280 => 85 | 281 => 86 | 282 => 87 | 283 => 55 | 284 => 56 | 285 => 57 | 286 => 58 | 287 => 92 | 316 => 93 | 317 => 70 | 318 => 72 | 319 => 73 | 320 => 74 | 321 => 95 | 322 => 96 | 337 => 88 | 338 => 89 | n => n, fun | 37 => 47 | 46 => 119 | 51 => 117 | 53 => 102 | 75 => 51 | 76 => 52 | 80 => 58 | 85 => 124 | 127 => 77 | 143 => 146 | 145 => 148 | 167 => 123 | 168 => 126 | 171 => 101 | 173 => 105 | 175 => 137 | 210 => 141 | 212 => 116 | 213 => 118 | 232 => 143 | 233 => 144 | n => n, fun | 15 => 5 | 16 => 6 | 17 => 2 | 18 => 7 | 19 => 8 | n => n⟩
theorem lays172 : Go.Proofs.LaysC.n172 Tryd.prog lays172_ren := {
  mixed := by kernel_rfl,
  f129 := Tryd.func71.trans (congrArg some (by kernel_rfl)),
  f171 := Tryd.func13.trans (congrArg some (by kernel_rfl)),
  f172 := Tryd.func53.trans (congrArg some (by kernel_rfl)),
  f205 := Tryd.func94.trans (congrArg some (by kernel_rfl)),
  f243 := Tryd.func26.trans (congrArg some (by kernel_rfl)),
  f244 := Tryd.func67.trans (congrArg some (by kernel_rfl)),
  f245 := Tryd.func68.trans (congrArg some (by kernel_rfl)),
  f246 := Tryd.func41.trans (congrArg some (by kernel_rfl)),
  f247 := Tryd.func83.trans (congrArg some (by kernel_rfl)),
  f279 := Tryd.func84.trans (congrArg some (by kernel_rfl)),
  f280 := Tryd.func85.trans (congrArg some (by kernel_rfl)),
  f281 := Tryd.func86.trans (congrArg some (by kernel_rfl)),
  f282 := Tryd.func87.trans (congrArg some (by kernel_rfl)),
  f283 := Tryd.func55.trans (congrArg some (by kernel_rfl)),
  f284 := Tryd.func56.trans (congrArg some (by kernel_rfl)),
  f285 := Tryd.func57.trans (congrArg some (by kernel_rfl)),
  f286 := Tryd.func58.trans (congrArg some (by kernel_rfl)),
  f287 := Tryd.func92.trans (congrArg some (by kernel_rfl)),
  f316 := Tryd.func93.trans (congrArg some (by kernel_rfl)),
  f317 := Tryd.func70.trans (congrArg some (by kernel_rfl)),
  f318 := Tryd.func72.trans (congrArg some (by kernel_rfl)),
  f319 := Tryd.func73.trans (congrArg some (by kernel_rfl)),
  f320 := Tryd.func74.trans (congrArg some (by kernel_rfl)),
  f321 := Tryd.func95.trans (congrArg some (by kernel_rfl)),
  f322 := Tryd.func96.trans (congrArg some (by kernel_rfl)),
  f337 := Tryd.func88.trans (congrArg some (by kernel_rfl)),
  f338 := Tryd.func89.trans (congrArg some (by kernel_rfl)),
  t0 := Tryd.underlying0,
  a0 := Tryd.isAgg0,
  z0 := Tryd.sizeOf0,
  v0 := Tryd.zeroValue0,
  t2 := Tryd.underlying2,
  a2 := Tryd.isAgg2,
  z2 := Tryd.sizeOf2,
  v2 := Tryd.zeroValue2,
  t3 := Tryd.underlying3,
  a3 := Tryd.isAgg3,
  z3 := Tryd.sizeOf3,
  v3 := Tryd.zeroValue3,
  t4 := Tryd.underlying4,
  a4 := Tryd.isAgg4,
  z4 := Tryd.sizeOf4,
  v4 := Tryd.zeroValue4,
  t5 := Tryd.underlying5,
  a5 := Tryd.isAgg5,
  z5 := Tryd.sizeOf5,
  v5 := Tryd.zeroValue5,
  t9 := Tryd.underlying9,
  a9 := Tryd.isAgg9,
  z9 := Tryd.sizeOf9,
  v9 := Tryd.zeroValue9,
  t20 := Tryd.underlying20,
  a20 := Tryd.isAgg20,
  z20 := Tryd.sizeOf20,
  v20 := Tryd.zeroValue20,
  t21 := Tryd.underlying21,
  a21 := Tryd.isAgg21,
  z21 := Tryd.sizeOf21,
  v21 := Tryd.zeroValue21,
  t37 := Tryd.underlying47,
  a37 := Tryd.isAgg47,
  z37 := Tryd.sizeOf47,
  v37 := Tryd.zeroValue47,
  t46 := Tryd.underlying119,
  a46 := Tryd.isAgg119,
  z46 := Tryd.sizeOf119,
  v46 := Tryd.zeroValue119,
  t51 := Tryd.underlying117,
  a51 := Tryd.isAgg117,
  z51 := Tryd.sizeOf117,
  v51 := Tryd.zeroValue117,
  t53 := Tryd.underlying102,
  a53 := Tryd.isAgg102,
  z53 := Tryd.sizeOf102,
  v53 := Tryd.zeroValue102,
  t75 := Tryd.underlying51,
  a75 := Tryd.isAgg51,
  z75 := Tryd.sizeOf51,
  v75 := Tryd.zeroValue51,
  t76 := Tryd.underlying52,
  a76 := Tryd.isAgg52,
  z76 := Tryd.sizeOf52,
  v76 := Tryd.zeroValue52,
  t85 := Tryd.underlying124,
  a85 := Tryd.isAgg124,
  z85 := Tryd.sizeOf124,
  v85 := Tryd.zeroValue124,
  t127 := Tryd.underlying77,
  a127 := Tryd.isAgg77,
  z127 := Tryd.sizeOf77,
  v127 := Tryd.zeroValue77,
  t143 := Tryd.underlying146,
  a143 := Tryd.isAgg146,
  z143 := Tryd.sizeOf146,
  v143 := Tryd.zeroValue146,
  t145 := Tryd.underlying148,
  a145 := Tryd.isAgg148,
  z145 := Tryd.sizeOf148,
  v145 := Tryd.zeroValue148,
  t167 := Tryd.underlying123,
  a167 := Tryd.isAgg123,
  z167 := Tryd.sizeOf123,
  v167 := Tryd.zeroValue123,
  t168 := Tryd.underlying126,
  a168 := Tryd.isAgg126,
  z168 := Tryd.sizeOf126,
  v168 := Tryd.zeroValue126,
  t171 := Tryd.underlying101,
  a171 := Tryd.isAgg101,
  z171 := Tryd.sizeOf101,
  v171 := Tryd.zeroValue101,
  t173 := Tryd.underlying105,
  a173 := Tryd.isAgg105,
  z173 := Tryd.sizeOf105,
  v173 := Tryd.zeroValue105,
  t175 := Tryd.underlying137,
  a175 := Tryd.isAgg137,
  z175 := Tryd.sizeOf137,
  v175 := Tryd.zeroValue137,
  t210 := Tryd.underlying141,
  a210 := Tryd.isAgg141,
  z210 := Tryd.sizeOf141,
  v210 := Tryd.zeroValue141,
  t212 := Tryd.underlying116,
  a212 := Tryd.isAgg116,
  z212 := Tryd.sizeOf116,
  v212 := Tryd.zeroValue116,
  t213 := Tryd.underlying118,
  a213 := Tryd.isAgg118,
  z213 := Tryd.sizeOf118,
  t232 := Tryd.underlying143,
  a232 := Tryd.isAgg143,
  z232 := Tryd.sizeOf143,
  v232 := Tryd.zeroValue143,
  t233 := Tryd.underlying144,
  a233 := Tryd.isAgg144,
  z233 := Tryd.sizeOf144,
  v233 := Tryd.zeroValue144,
  g15 := by kernel_rfl,
  g16 := by kernel_rfl,
  g17 := by kernel_rfl,
  g18 := by kernel_rfl,
  g19 := by kernel_rfl,
  t80 := Tryd.underlying58,
  a80 := Tryd.isAgg58,
  z80 := Tryd.sizeOf58,
  v80 := Tryd.zeroValue58,
  i0 := by kernel_rfl,
  i2 := by kernel_rfl,
  i3 := by kernel_rfl,
  i4 := by kernel_rfl,
  i5 := by kernel_rfl,
  i9 := by kernel_rfl,
  i20 := by kernel_rfl,
  i21 := by kernel_rfl,
  i37 := by kernel_rfl,
  i46 := by kernel_rfl,
  i51 := by kernel_rfl,
  i53 := by kernel_rfl,
  i75 := by kernel_rfl,
  i76 := by kernel_rfl,
  i80 := by kernel_rfl,
  i85 := by kernel_rfl,
  i127 := by kernel_rfl,
  i143 := by kernel_rfl,
  i145 := by kernel_rfl,
  i167 := by kernel_rfl,
  i168 := by kernel_rfl,
  i171 := by kernel_rfl,
  i173 := by kernel_rfl,
  i175 := by kernel_rfl,
  i210 := by kernel_rfl,
  i212 := by kernel_rfl,
  i232 := by kernel_rfl,
  i233 := by kernel_rfl,
  m15 := by kernel_rfl,
  m16 := by kernel_rfl,
  m17 := by kernel_rfl,
  m18 := by kernel_rfl,
  m19 := by kernel_rfl,
  c0 := by kernel_rfl,
  c2 := by kernel_rfl,
  c3 := by kernel_rfl,
  c4 := by kernel_rfl,
  c5 := by kernel_rfl,
  c9 := by kernel_rfl,
  c20 := by kernel_rfl,
  c21 := by kernel_rfl,
  c37 := by kernel_rfl,
  c46 := by kernel_rfl,
  c51 := by kernel_rfl,
  c53 := by kernel_rfl,
  c75 := by kernel_rfl,
  c76 := by kernel_rfl,
  c80 := by kernel_rfl,
  c85 := by kernel_rfl,
  c127 := by kernel_rfl,
  c143 := by kernel_rfl,
  c145 := by kernel_rfl,
  c167 := by kernel_rfl,
  c168 := by kernel_rfl,
  c171 := by kernel_rfl,
  c173 := by kernel_rfl,
  c175 := by kernel_rfl,
  c210 := by kernel_rfl,
  c212 := by kernel_rfl,
  c213 := by kernel_rfl,
  c232 := by kernel_rfl,
  c233 := by kernel_rfl }

def lays171_ren : Go.Shelf.Ren := ⟨fun | 129 => 71 | 171 => 13 | 243 => 26 | 246 => 41 | 283 => 55 | 284 => 56 | 285 => 57 | 286 => 58 | 317 => 70 | 318 => 72 | 319 => 73 | 320 => 74 | 337 => 88 | 338 => 89 | n => n, fun | 37 => 47 | 46 => 119 | 51 => 117 | 53 => 102 | 171 => 101 | 173 => 105 | 212 => 116 | 213 => 118 | 232 => 143 | 233 => 144 | n => n, fun | 17 => 2 | 18 => 7 | 19 => 8 | n => n⟩
theorem lays171 : Go.Proofs.LaysM.n171 Tryd.prog lays171_ren := {
  mixed := by kernel_rfl,
  f129 := Tryd.func71.trans (congrArg some (by kernel_rfl)),
  f171 := Tryd.func13.trans (congrArg some (by kernel_rfl)),
  f243 := Tryd.func26.trans (congrArg some (by kernel_rfl)),
  f246 := Tryd.func41.trans (congrArg some (by kernel_rfl)),
  f283 := Tryd.func55.trans (congrArg some (by kernel_rfl)),
  f284 := Tryd.func56.trans (congrArg some (by kernel_rfl)),
  f285 := Tryd.func57.trans (congrArg some (by kernel_rfl)),
  f286 := Tryd.func58.trans (congrArg some (by kernel_rfl)),
  f317 := Tryd.func70.trans (congrArg some (by kernel_rfl)),
  f318 := Tryd.func72.trans (congrArg some (by kernel_rfl)),
  f319 := Tryd.func73.trans (congrArg some (by kernel_rfl)),
  f320 := Tryd.func74.trans (congrArg some (by kernel_rfl)),
  f337 := Tryd.func88.trans (congrArg some (by kernel_rfl)),
  f338 := Tryd.func89.trans (congrArg some (by kernel_rfl)),
  t0 := Tryd.underlying0,
  a0 := Tryd.isAgg0,
  z0 := Tryd.sizeOf0,
  v0 := Tryd.zeroValue0,
  t2 := Tryd.underlying2,
  a2 := Tryd.isAgg2,
  z2 := Tryd.sizeOf2,
  v2 := Tryd.zeroValue2,
  t3 := Tryd.underlying3,
  a3 := Tryd.isAgg3,
  z3 := Tryd.sizeOf3,
  v3 := Tryd.zeroValue3,
  t4 := Tryd.underlying4,
  a4 := Tryd.isAgg4,
  z4 := Tryd.sizeOf4,
  v4 := Tryd.zeroValue4,
  t5 := Tryd.underlying5,
  a5 := Tryd.isAgg5,
  z5 := Tryd.sizeOf5,
  v5 := Tryd.zeroValue5,
  t9 := Tryd.underlying9,
  a9 := Tryd.isAgg9,
  z9 := Tryd.sizeOf9,
  v9 := Tryd.zeroValue9,
  t20 := Tryd.underlying20,
  a20 := Tryd.isAgg20,
  z20 := Tryd.sizeOf20,
  v20 := Tryd.zeroValue20,
  t37 := Tryd.underlying47,
  a37 := Tryd.isAgg47,
  z37 := Tryd.sizeOf47,
  v37 := Tryd.zeroValue47,
  t46 := Tryd.underlying119,
  a46 := Tryd.isAgg119,
  z46 := Tryd.sizeOf119,
  v46 := Tryd.zeroValue119,
  t51 := Tryd.underlying117,
  a51 := Tryd.isAgg117,
  z51 := Tryd.sizeOf117,
  v51 := Tryd.zeroValue117,
  t53 := Tryd.underlying102,
  a53 := Tryd.isAgg102,
  z53 := Tryd.sizeOf102,
  v53 := Tryd.zeroValue102,
  t171 := Tryd.underlying101,
  a171 := Tryd.isAgg101,
  z171 := Tryd.sizeOf101,
  v171 := Tryd.zeroValue101,
  t173 := Tryd.underlying105,
  a173 := Tryd.isAgg105,
  z173 := Tryd.sizeOf105,
  v173 := Tryd.zeroValue105,
  t212 := Tryd.underlying116,
  a212 := Tryd.isAgg116,
  z212 := Tryd.sizeOf116,
  v212 := Tryd.zeroValue116,
  t213 := Tryd.underlying118,
  a213 := Tryd.isAgg118,
  z213 := Tryd.sizeOf118,
  t232 := Tryd.underlying143,
  a232 := Tryd.isAgg143,
  z232 := Tryd.sizeOf143,
  v232 := Tryd.zeroValue143,
  t233 := Tryd.underlying144,
  a233 := Tryd.isAgg144,
  z233 := Tryd.sizeOf144,
  v233 := Tryd.zeroValue144,
  g17 := by kernel_rfl,
  g18 := by kernel_rfl,
  g19 := by kernel_rfl,
  i0 := by kernel_rfl,
  i2 := by kernel_rfl,
  i3 := by kernel_rfl,
  i4 := by kernel_rfl,
  i5 := by kernel_rfl,
  i9 := by kernel_rfl,
  i20 := by kernel_rfl,
  i37 := by kernel_rfl,
  i46 := by kernel_rfl,
  i51 := by kernel_rfl,
  i53 := by kernel_rfl,
  i171 := by kernel_rfl,
  i173 := by kernel_rfl,
  i212 := by kernel_rfl,
  i232 := by kernel_rfl,
  i233 := by kernel_rfl,
  m17 := by kernel_rfl,
  m18 := by kernel_rfl,
  m19 := by kernel_rfl }

structure LibE (w : World) : Prop where
  syn : ∃ t p, w.cell? ⟨5, 0, none⟩ = some (.iface t p)
  rng : ∃ t p, w.cell? ⟨6, 0, none⟩ = some (.iface t p)
  tab : Lib.TabIs Tryd.prog w "internal/strconv.uint64pow10" .u64 Lib.pow10Tab
theorem gTab : Tryd.prog.globalNamed "internal/strconv.uint64pow10" = some 2 := by kernel_rfl
theorem cell0_keep {w w' : World} {g : Nat} {v : Value} (h : w.cell? ⟨g, 0, none⟩ = some v) (k : Fresh w w') : w'.cell? ⟨g, 0, none⟩ = some v := by
  unfold World.cell? at h ⊢
  split at h
  · rename_i e; rw [k.block _ (Array.getElem?_eq_some_iff.1 e).1, e]; exact h
  · cases h
theorem LibE.keep {w w' : World} (h : LibE w) (k : Fresh w w') : LibE w' := by
  obtain ⟨⟨t, p, h2⟩, ⟨t', p', h3⟩, h⟩ := h
  refine ⟨⟨t, p, cell0_keep h2 k⟩, ⟨t', p', cell0_keep h3 k⟩, ?_⟩
  unfold Lib.TabIs World.var? at *
  rw [gTab] at h ⊢
  simp only [Option.bind_some] at h ⊢
  have hlt : 2 < w.heap.size := by
    by_cases hl : 2 < w.heap.size
    · exact hl
    · rw [Array.getElem?_eq_none (by omega)] at h; cases h
  rw [k.block 2 hlt]; exact h
theorem fresh_grow (w : World) (k : Nat) (os : Array Obj) : Fresh w (Sort.grow (w.drewN k) os) :=
  ⟨rfl, rfl, rfl, by simp [Sort.grow, World.drewN], fun j hj => by
    show (w.heap ++ os)[j]? = w.heap[j]?
    rw [Array.getElem?_append_left hj]⟩
def MemAt (m : Mem) : Prop := fnOk Tryd.prog m.f = true ∧ ∀ w, LibE w → CallsV Tryd.prog m.f m.args w (MPost m w)
theorem MemAt.to {m : Mem} (h : MemAt m) {C : Cfg} (hq : C.q = LibE) : fnOk Tryd.prog m.f = true ∧ ∀ E : KE, SameG C E → E.Ok → ∀ W, Keep (· < E.N) E.b W → E.N ≤ W.heap.size → CallsV Tryd.prog m.f m.args W (MPost m W) := by
  refine ⟨h.1, fun E hS _ W hk _ => h.2 W ?_⟩
  have h1 := hS.2.2
  rw [hq] at h1
  exact h1.keep (by rw [hS.2.1] at hk; exact hk)
def itM (n : Int) (s : List UInt8) : Mem := ⟨13, [.int .i64 n], [.pl (.string ⟨⟨s⟩⟩)]⟩
theorem itM_ok (n : Int) (s : List UInt8) (h0 : -9223372036854775808 ≤ n) (h1 : n ≤ 9223372036854775807) (h : Lib.itoa n = s) : MemAt (itM n s) := by
  subst h
  refine ⟨by show fnOk Tryd.prog 13 = true; kernel_rfl, fun w hL => ?_⟩
  refine Calls.mono (Any.strconv_Itoa lays171 n h0 h1 w hL.tab) fun e w' he => ?_
  obtain ⟨rfl, k, os, rfl⟩ := he
  exact ⟨fresh_grow w k os, [.string ⟨⟨Lib.itoa n⟩⟩], rfl, _, rfl, rfl⟩
def bdM (s : List UInt8) : Mem := ⟨53, [.string ⟨⟨s⟩⟩], [.pl (.int .i64 0), .err 126]⟩
def nmM (s : List UInt8) (n : Int) : Mem := ⟨53, [.string ⟨⟨s⟩⟩], [.pl (.int .i64 n), .pl .nilIface]⟩
theorem nmM_ok (s : List UInt8) (n : Int) (hs : s.length ≤ 100000) (h : Lib.atoiAll s = .ok n) : MemAt (nmM s n) := by
  refine ⟨by show fnOk Tryd.prog 53 = true; kernel_rfl, fun w hL => ?_⟩
  refine Calls.mono (Any.strconv_Atoi_ok lays172 ⟨⟨s⟩⟩ (by show (⟨s⟩ : Array UInt8).size ≤ _; simp; omega) n h w) fun e w' he => ?_
  obtain ⟨rfl, he⟩ := he
  refine ⟨?_, [.int .i64 n, .nilIface], rfl, _, rfl, _, rfl, rfl⟩
  rcases he with rfl | ⟨x, rfl⟩
  · exact Fresh.refl _
  · refine ⟨rfl, rfl, rfl, ?_, fun j hj => ?_⟩
    · unfold Lib.bytesWorld World.freeze
      rw [if_neg (by decide)]; simp
    · unfold Lib.bytesWorld World.freeze
      rw [if_neg (by decide)]
      simp only [Array.getElem?_modify]
      rw [if_neg (by show ¬ w.heap.size = j; omega)]
      exact Go.RowKit.Below.heap_alloc w.drew _ j hj
theorem bdM_ok (s : List UInt8) (hs : s.length ≤ 100000) (h : (match Lib.atoiAll s with | .ok _ => false | .range => false | _ => true) = true) : MemAt (bdM s) := by
  refine ⟨by show fnOk Tryd.prog 53 = true; kernel_rfl, fun w hL => ?_⟩
  obtain ⟨t, p, h2⟩ := hL.syn
  cases h3 : Lib.atoiAll s
  · rw [h3] at h; cases h
  · refine Calls.mono (Any.strconv_Atoi_syntax lays172 ⟨⟨s⟩⟩ (by show (⟨s⟩ : Array UInt8).size ≤ _; simp; omega) h3 _ w h2 (.inr ⟨t, p, rfl⟩)) fun e w' he => ?_
    obtain ⟨N, rfl, _, _, hb⟩ := he
    exact ⟨⟨hb.1, hb.2, hb.3, hb.4, hb.5⟩, [.int .i64 0, .iface 126 (.pointer (some ⟨N, 0, none⟩))], rfl, _, rfl, _, _, rfl, rfl⟩
  · rw [h3] at h; cases h
end Go.Proofs.YtfgdmcnlbgbleaaDoor
