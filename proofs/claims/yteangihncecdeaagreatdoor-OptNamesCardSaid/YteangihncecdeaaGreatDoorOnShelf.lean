/- The kit's shelf contracts of strconv.Atoi and strconv.Itoa, laid at this program (the text printed by tools/ShText), as answers that the runner knows. -/
import Derived.Shelf.Strconv.AtoiAll
import Derived.Shelf.Strconv.Itoa3
import Derived.Test.YteangihncecdeaaGreatDoorProg
import Derived.Test.YteangihncecdeaaGreatDoorKxTab
import Derived.KernelRfl
set_option linter.unusedSimpArgs false
set_option linter.unusedVariables false
set_option linter.unnecessarySimpa false
namespace Go.Proofs.YteangihncecdeaaGreatDoor
open Go Go.Sx Go.Shelf Go.Kx
set_option maxRecDepth 100000

def lays172_ren : Go.Shelf.Ren := ⟨fun | 129 => 89 | 171 => 131 | 172 => 102 | 205 => 158 | 243 => 146 | 244 => 132 | 245 => 133 | 246 => 155 | 247 => 147 | 279 => 148 | 280 => 149 | 281 => 150 | 282 => 151 | 283 => 159 | 284 => 160 | 285 => 161 | 286 => 162 | 287 => 156 | 316 => 157 | 317 => 165 | 318 => 166 | 319 => 167 | 320 => 168 | 321 => 163 | 322 => 164 | 337 => 169 | 338 => 170 | n => n, fun | 37 => 189 | 46 => 126 | 51 => 152 | 53 => 39 | 75 => 164 | 76 => 165 | 80 => 235 | 85 => 201 | 127 => 226 | 143 => 227 | 145 => 229 | 167 => 200 | 168 => 203 | 171 => 221 | 173 => 223 | 175 => 215 | 210 => 219 | 212 => 231 | 213 => 232 | 232 => 233 | 233 => 234 | n => n, fun | 15 => 4 | 16 => 5 | 17 => 6 | 18 => 7 | 19 => 8 | n => n⟩
theorem lays172 : Go.Proofs.LaysC.n172 Tryz.prog lays172_ren := {
  mixed := by kernel_rfl,
  f129 := Tryz.func89.trans (congrArg some (by kernel_rfl)),
  f171 := Tryz.func131.trans (congrArg some (by kernel_rfl)),
  f172 := Tryz.func102.trans (congrArg some (by kernel_rfl)),
  f205 := Tryz.func158.trans (congrArg some (by kernel_rfl)),
  f243 := Tryz.func146.trans (congrArg some (by kernel_rfl)),
  f244 := Tryz.func132.trans (congrArg some (by kernel_rfl)),
  f245 := Tryz.func133.trans (congrArg some (by kernel_rfl)),
  f246 := Tryz.func155.trans (congrArg some (by kernel_rfl)),
  f247 := Tryz.func147.trans (congrArg some (by kernel_rfl)),
  f279 := Tryz.func148.trans (congrArg some (by kernel_rfl)),
  f280 := Tryz.func149.trans (congrArg some (by kernel_rfl)),
  f281 := Tryz.func150.trans (congrArg some (by kernel_rfl)),
  f282 := Tryz.func151.trans (congrArg some (by kernel_rfl)),
  f283 := Tryz.func159.trans (congrArg some (by kernel_rfl)),
  f284 := Tryz.func160.trans (congrArg some (by kernel_rfl)),
  f285 := Tryz.func161.trans (congrArg some (by kernel_rfl)),
  f286 := Tryz.func162.trans (congrArg some (by kernel_rfl)),
  f287 := Tryz.func156.trans (congrArg some (by kernel_rfl)),
  f316 := Tryz.func157.trans (congrArg some (by kernel_rfl)),
  f317 := Tryz.func165.trans (congrArg some (by kernel_rfl)),
  f318 := Tryz.func166.trans (congrArg some (by kernel_rfl)),
  f319 := Tryz.func167.trans (congrArg some (by kernel_rfl)),
  f320 := Tryz.func168.trans (congrArg some (by kernel_rfl)),
  f321 := Tryz.func163.trans (congrArg some (by kernel_rfl)),
  f322 := Tryz.func164.trans (congrArg some (by kernel_rfl)),
  f337 := Tryz.func169.trans (congrArg some (by kernel_rfl)),
  f338 := Tryz.func170.trans (congrArg some (by kernel_rfl)),
  t0 := Tryz.underlying0,
  a0 := Tryz.isAgg0,
  z0 := Tryz.sizeOf0,
  v0 := Tryz.zeroValue0,
  t2 := Tryz.underlying2,
  a2 := Tryz.isAgg2,
  z2 := Tryz.sizeOf2,
  v2 := Tryz.zeroValue2,
  t3 := Tryz.underlying3,
  a3 := Tryz.isAgg3,
  z3 := Tryz.sizeOf3,
  v3 := Tryz.zeroValue3,
  t4 := Tryz.underlying4,
  a4 := Tryz.isAgg4,
  z4 := Tryz.sizeOf4,
  v4 := Tryz.zeroValue4,
  t5 := Tryz.underlying5,
  a5 := Tryz.isAgg5,
  z5 := Tryz.sizeOf5,
  v5 := Tryz.zeroValue5,
  t9 := Tryz.underlying9,
  a9 := Tryz.isAgg9,
  z9 := Tryz.sizeOf9,
  v9 := Tryz.zeroValue9,
  t20 := Tryz.underlying20,
  a20 := Tryz.isAgg20,
  z20 := Tryz.sizeOf20,
  v20 := Tryz.zeroValue20,
  t21 := Tryz.underlying21,
  a21 := Tryz.isAgg21,
  z21 := Tryz.sizeOf21,
  v21 := Tryz.zeroValue21,
  t37 := Tryz.underlying189,
  a37 := Tryz.isAgg189,
  z37 := Tryz.sizeOf189,
  v37 := Tryz.zeroValue189,
  t46 := Tryz.underlying126,
  a46 := Tryz.isAgg126,
  z46 := Tryz.sizeOf126,
  v46 := Tryz.zeroValue126,
  t51 := Tryz.underlying152,
  a51 := Tryz.isAgg152,
  z51 := Tryz.sizeOf152,
  v51 := Tryz.zeroValue152,
  t53 := Tryz.underlying39,
  a53 := Tryz.isAgg39,
  z53 := Tryz.sizeOf39,
  v53 := Tryz.zeroValue39,
  t75 := Tryz.underlying164,
  a75 := Tryz.isAgg164,
  z75 := Tryz.sizeOf164,
  v75 := Tryz.zeroValue164,
  t76 := Tryz.underlying165,
  a76 := Tryz.isAgg165,
  z76 := Tryz.sizeOf165,
  v76 := Tryz.zeroValue165,
  t85 := Tryz.underlying201,
  a85 := Tryz.isAgg201,
  z85 := Tryz.sizeOf201,
  v85 := Tryz.zeroValue201,
  t127 := Tryz.underlying226,
  a127 := Tryz.isAgg226,
  z127 := Tryz.sizeOf226,
  v127 := Tryz.zeroValue226,
  t143 := Tryz.underlying227,
  a143 := Tryz.isAgg227,
  z143 := Tryz.sizeOf227,
  v143 := Tryz.zeroValue227,
  t145 := Tryz.underlying229,
  a145 := Tryz.isAgg229,
  z145 := Tryz.sizeOf229,
  v145 := Tryz.zeroValue229,
  t167 := Tryz.underlying200,
  a167 := Tryz.isAgg200,
  z167 := Tryz.sizeOf200,
  v167 := Tryz.zeroValue200,
  t168 := Tryz.underlying203,
  a168 := Tryz.isAgg203,
  z168 := Tryz.sizeOf203,
  v168 := Tryz.zeroValue203,
  t171 := Tryz.underlying221,
  a171 := Tryz.isAgg221,
  z171 := Tryz.sizeOf221,
  v171 := Tryz.zeroValue221,
  t173 := Tryz.underlying223,
  a173 := Tryz.isAgg223,
  z173 := Tryz.sizeOf223,
  v173 := Tryz.zeroValue223,
  t175 := Tryz.underlying215,
  a175 := Tryz.isAgg215,
  z175 := Tryz.sizeOf215,
  v175 := Tryz.zeroValue215,
  t210 := Tryz.underlying219,
  a210 := Tryz.isAgg219,
  z210 := Tryz.sizeOf219,
  v210 := Tryz.zeroValue219,
  t212 := Tryz.underlying231,
  a212 := Tryz.isAgg231,
  z212 := Tryz.sizeOf231,
  v212 := Tryz.zeroValue231,
  t213 := Tryz.underlying232,
  a213 := Tryz.isAgg232,
  z213 := Tryz.sizeOf232,
  t232 := Tryz.underlying233,
  a232 := Tryz.isAgg233,
  z232 := Tryz.sizeOf233,
  v232 := Tryz.zeroValue233,
  t233 := Tryz.underlying234,
  a233 := Tryz.isAgg234,
  z233 := Tryz.sizeOf234,
  v233 := Tryz.zeroValue234,
  g15 := by kernel_rfl,
  g16 := by kernel_rfl,
  g17 := by kernel_rfl,
  g18 := by kernel_rfl,
  g19 := by kernel_rfl,
  t80 := Tryz.underlying235,
  a80 := Tryz.isAgg235,
  z80 := Tryz.sizeOf235,
  v80 := Tryz.zeroValue235,
  i0 := by kernel_rfl,
  i2 := by kernel_rfl,
  i3 := by kernel_rfl,
  i4 := by kernel_rfl,
  i5 := by kernel_rfl,
  i9 := by kernel_rfl,
  i20 := by kernel_rfl,
  i21 := by kernel_rfl,
  i37 := by kernel_rfl,
  i46 := by kernel_rfl,
  i51 := by kernel_rfl,
  i53 := by kernel_rfl,
  i75 := by kernel_rfl,
  i76 := by kernel_rfl,
  i80 := by kernel_rfl,
  i85 := by kernel_rfl,
  i127 := by kernel_rfl,
  i143 := by kernel_rfl,
  i145 := by kernel_rfl,
  i167 := by kernel_rfl,
  i168 := by kernel_rfl,
  i171 := by kernel_rfl,
  i173 := by kernel_rfl,
  i175 := by kernel_rfl,
  i210 := by kernel_rfl,
  i212 := by kernel_rfl,
  i232 := by kernel_rfl,
  i233 := by kernel_rfl,
  m15 := by kernel_rfl,
  m16 := by kernel_rfl,
  m17 := by kernel_rfl,
  m18 := by kernel_rfl,
  m19 := by kernel_rfl,
  c0 := by kernel_rfl,
  c2 := by kernel_rfl,
  c3 := by kernel_rfl,
  c4 := by kernel_rfl,
  c5 := by kernel_rfl,
  c9 := by kernel_rfl,
  c20 := by kernel_rfl,
  c21 := by kernel_rfl,
  c37 := by kernel_rfl,
  c46 := by kernel_rfl,
  c51 := by kernel_rfl,
  c53 := by kernel_rfl,
  c75 := by kernel_rfl,
  c76 := by kernel_rfl,
  c80 := by kernel_rfl,
  c85 := by kernel_rfl,
  c127 := by kernel_rfl,
  c143 := by kernel_rfl,
  c145 := by kernel_rfl,
  c167 := by kernel_rfl,
  c168 := by kernel_rfl,
  c171 := by kernel_rfl,
  c173 := by kernel_rfl,
  c175 := by kernel_rfl,
  c210 := by kernel_rfl,
  c212 := by kernel_rfl,
  c213 := by kernel_rfl,
  c232 := by kernel_rfl,
  c233 := by kernel_rfl }

def lays171_ren : Go.Shelf.Ren := ⟨fun | 129 => 89 | 171 => 131 | 243 => 146 | 246 => 155 | 283 => 159 | 284 => 160 | 285 => 161 | 286 => 162 | 317 => 165 | 318 => 166 | 319 => 167 | 320 => 168 | 337 => 169 | 338 => 170 | n => n, fun | 37 => 189 | 46 => 126 | 51 => 152 | 53 => 39 | 171 => 221 | 173 => 223 | 212 => 231 | 213 => 232 | 232 => 233 | 233 => 234 | n => n, fun | 17 => 6 | 18 => 7 | 19 => 8 | n => n⟩
theorem lays171 : Go.Proofs.LaysM.n171 Tryz.prog lays171_ren := {
  mixed := by kernel_rfl,
  f129 := Tryz.func89.trans (congrArg some (by kernel_rfl)),
  f171 := Tryz.func131.trans (congrArg some (by kernel_rfl)),
  f243 := Tryz.func146.trans (congrArg some (by kernel_rfl)),
  f246 := Tryz.func155.trans (congrArg some (by kernel_rfl)),
  f283 := Tryz.func159.trans (congrArg some (by kernel_rfl)),
  f284 := Tryz.func160.trans (congrArg some (by kernel_rfl)),
  f285 := Tryz.func161.trans (congrArg some (by kernel_rfl)),
  f286 := Tryz.func162.trans (congrArg some (by kernel_rfl)),
  f317 := Tryz.func165.trans (congrArg some (by kernel_rfl)),
  f318 := Tryz.func166.trans (congrArg some (by kernel_rfl)),
  f319 := Tryz.func167.trans (congrArg some (by kernel_rfl)),
  f320 := Tryz.func168.trans (congrArg some (by kernel_rfl)),
  f337 := Tryz.func169.trans (congrArg some (by kernel_rfl)),
  f338 := Tryz.func170.trans (congrArg some (by kernel_rfl)),
  t0 := Tryz.underlying0,
  a0 := Tryz.isAgg0,
  z0 := Tryz.sizeOf0,
  v0 := Tryz.zeroValue0,
  t2 := Tryz.underlying2,
  a2 := Tryz.isAgg2,
  z2 := Tryz.sizeOf2,
  v2 := Tryz.zeroValue2,
  t3 := Tryz.underlying3,
  a3 := Tryz.isAgg3,
  z3 := Tryz.sizeOf3,
  v3 := Tryz.zeroValue3,
  t4 := Tryz.underlying4,
  a4 := Tryz.isAgg4,
  z4 := Tryz.sizeOf4,
  v4 := Tryz.zeroValue4,
  t5 := Tryz.underlying5,
  a5 := Tryz.isAgg5,
  z5 := Tryz.sizeOf5,
  v5 := Tryz.zeroValue5,
  t9 := Tryz.underlying9,
  a9 := Tryz.isAgg9,
  z9 := Tryz.sizeOf9,
  v9 := Tryz.zeroValue9,
  t20 := Tryz.underlying20,
  a20 := Tryz.isAgg20,
  z20 := Tryz.sizeOf20,
  v20 := Tryz.zeroValue20,
  t37 := Tryz.underlying189,
  a37 := Tryz.isAgg189,
  z37 := Tryz.sizeOf189,
  v37 := Tryz.zeroValue189,
  t46 := Tryz.underlying126,
  a46 := Tryz.isAgg126,
  z46 := Tryz.sizeOf126,
  v46 := Tryz.zeroValue126,
  t51 := Tryz.underlying152,
  a51 := Tryz.isAgg152,
  z51 := Tryz.sizeOf152,
  v51 := Tryz.zeroValue152,
  t53 := Tryz.underlying39,
  a53 := Tryz.isAgg39,
  z53 := Tryz.sizeOf39,
  v53 := Tryz.zeroValue39,
  t171 := Tryz.underlying221,
  a171 := Tryz.isAgg221,
  z171 := Tryz.sizeOf221,
  v171 := Tryz.zeroValue221,
  t173 := Tryz.underlying223,
  a173 := Tryz.isAgg223,
  z173 := Tryz.sizeOf223,
  v173 := Tryz.zeroValue223,
  t212 := Tryz.underlying231,
  a212 := Tryz.isAgg231,
  z212 := Tryz.sizeOf231,
  v212 := Tryz.zeroValue231,
  t213 := Tryz.underlying232,
  a213 := Tryz.isAgg232,
  z213 := Tryz.sizeOf232,
  t232 := Tryz.underlying233,
  a232 := Tryz.isAgg233,
  z232 := Tryz.sizeOf233,
  v232 := Tryz.zeroValue233,
  t233 := Tryz.underlying234,
  a233 := Tryz.isAgg234,
  z233 := Tryz.sizeOf234,
  v233 := Tryz.zeroValue234,
  g17 := by kernel_rfl,
  g18 := by kernel_rfl,
  g19 := by kernel_rfl,
  i0 := by kernel_rfl,
  i2 := by kernel_rfl,
  i3 := by kernel_rfl,
  i4 := by kernel_rfl,
  i5 := by kernel_rfl,
  i9 := by kernel_rfl,
  i20 := by kernel_rfl,
  i37 := by kernel_rfl,
  i46 := by kernel_rfl,
  i51 := by kernel_rfl,
  i53 := by kernel_rfl,
  i171 := by kernel_rfl,
  i173 := by kernel_rfl,
  i212 := by kernel_rfl,
  i232 := by kernel_rfl,
  i233 := by kernel_rfl,
  m17 := by kernel_rfl,
  m18 := by kernel_rfl,
  m19 := by kernel_rfl }

structure LibE (w : World) : Prop where
  syn : ∃ t p, w.cell? ⟨4, 0, none⟩ = some (.iface t p)
  rng : ∃ t p, w.cell? ⟨5, 0, none⟩ = some (.iface t p)
  tab : Lib.TabIs Tryz.prog w "internal/strconv.uint64pow10" .u64 Lib.pow10Tab
theorem gTab : Tryz.prog.globalNamed "internal/strconv.uint64pow10" = some 6 := by kernel_rfl
theorem cell0_keep {w w' : World} {g : Nat} {v : Value} (h : w.cell? ⟨g, 0, none⟩ = some v) (k : Fresh w w') : w'.cell? ⟨g, 0, none⟩ = some v := by
  unfold World.cell? at h ⊢
  split at h
  · rename_i e; rw [k.block _ (Array.getElem?_eq_some_iff.1 e).1, e]; exact h
  · cases h
theorem LibE.keep {w w' : World} (h : LibE w) (k : Fresh w w') : LibE w' := by
  obtain ⟨⟨t, p, h2⟩, ⟨t', p', h3⟩, h⟩ := h
  refine ⟨⟨t, p, cell0_keep h2 k⟩, ⟨t', p', cell0_keep h3 k⟩, ?_⟩
  unfold Lib.TabIs World.var? at *
  rw [gTab] at h ⊢
  simp only [Option.bind_some] at h ⊢
  have hlt : 6 < w.heap.size := by
    by_cases hl : 6 < w.heap.size
    · exact hl
    · rw [Array.getElem?_eq_none (by omega)] at h; cases h
  rw [k.block 6 hlt]; exact h
theorem fresh_grow (w : World) (k : Nat) (os : Array Obj) : Fresh w (Sort.grow (w.drewN k) os) :=
  ⟨rfl, rfl, rfl, by simp [Sort.grow, World.drewN], fun j hj => by
    show (w.heap ++ os)[j]? = w.heap[j]?
    rw [Array.getElem?_append_left hj]⟩
def MemAt (m : Mem) : Prop := fnOk Tryz.prog m.f = true ∧ ∀ w, LibE w → CallsV Tryz.prog m.f m.args w (MPost m w)
theorem MemAt.to {m : Mem} (h : MemAt m) {C : Cfg} (hq : C.q = LibE) : fnOk Tryz.prog m.f = true ∧ ∀ E : KE, SameG C E → E.Ok → ∀ W, Keep (· < E.N) E.b W → E.N ≤ W.heap.size → CallsV Tryz.prog m.f m.args W (MPost m W) := by
  refine ⟨h.1, fun E hS _ W hk _ => h.2 W ?_⟩
  have h1 := hS.2.2
  rw [hq] at h1
  exact h1.keep (by rw [hS.2.1] at hk; exact hk)
def itM (n : Int) (s : List UInt8) : Mem := ⟨131, [.int .i64 n], [.pl (.string ⟨⟨s⟩⟩)]⟩
theorem itM_ok (n : Int) (s : List UInt8) (h0 : -9223372036854775808 ≤ n) (h1 : n ≤ 9223372036854775807) (h : Lib.itoa n = s) : MemAt (itM n s) := by
  subst h
  refine ⟨by show fnOk Tryz.prog 131 = true; kernel_rfl, fun w hL => ?_⟩
  refine Calls.mono (Any.strconv_Itoa lays171 n h0 h1 w hL.tab) fun e w' he => ?_
  obtain ⟨rfl, k, os, rfl⟩ := he
  exact ⟨fresh_grow w k os, [.string ⟨⟨Lib.itoa n⟩⟩], rfl, _, rfl, rfl⟩
def bdM (s : List UInt8) : Mem := ⟨102, [.string ⟨⟨s⟩⟩], [.pl (.int .i64 0), .err 203]⟩
def nmM (s : List UInt8) (n : Int) : Mem := ⟨102, [.string ⟨⟨s⟩⟩], [.pl (.int .i64 n), .pl .nilIface]⟩
theorem nmM_ok (s : List UInt8) (n : Int) (hs : s.length ≤ 100000) (h : Lib.atoiAll s = .ok n) : MemAt (nmM s n) := by
  refine ⟨by show fnOk Tryz.prog 102 = true; kernel_rfl, fun w hL => ?_⟩
  refine Calls.mono (Any.strconv_Atoi_ok lays172 ⟨⟨s⟩⟩ (by show (⟨s⟩ : Array UInt8).size ≤ _; simp; omega) n h w) fun e w' he => ?_
  obtain ⟨rfl, he⟩ := he
  refine ⟨?_, [.int .i64 n, .nilIface], rfl, _, rfl, _, rfl, rfl⟩
  rcases he with rfl | ⟨x, rfl⟩
  · exact Fresh.refl _
  · refine ⟨rfl, rfl, rfl, ?_, fun j hj => ?_⟩
    · unfold Lib.bytesWorld World.freeze
      rw [if_neg (by decide)]; simp
    · unfold Lib.bytesWorld World.freeze
      rw [if_neg (by decide)]
      simp only [Array.getElem?_modify]
      rw [if_neg (by show ¬ w.heap.size = j; omega)]
      exact Go.RowKit.Below.heap_alloc w.drew _ j hj
theorem bdM_ok (s : List UInt8) (hs : s.length ≤ 100000) (h : (match Lib.atoiAll s with | .ok _ => false | .range => false | _ => true) = true) : MemAt (bdM s) := by
  refine ⟨by show fnOk Tryz.prog 102 = true; kernel_rfl, fun w hL => ?_⟩
  obtain ⟨t, p, h2⟩ := hL.syn
  cases h3 : Lib.atoiAll s
  · rw [h3] at h; cases h
  · refine Calls.mono (Any.strconv_Atoi_syntax lays172 ⟨⟨s⟩⟩ (by show (⟨s⟩ : Array UInt8).size ≤ _; simp; omega) h3 _ w h2 (.inr ⟨t, p, rfl⟩)) fun e w' he => ?_
    obtain ⟨N, rfl, _, _, hb⟩ := he
    exact ⟨⟨hb.1, hb.2, hb.3, hb.4, hb.5⟩, [.int .i64 0, .iface 203 (.pointer (some ⟨N, 0, none⟩))], rfl, _, rfl, _, _, rfl, rfl⟩
  · rw [h3] at h; cases h
end Go.Proofs.YteangihncecdeaaGreatDoor
