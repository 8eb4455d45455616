/- CacheSets, CacheBack: alive; calls of New and All. -/
import Derived.Test.YtimmobbginjkfaaCaW8
import Derived.Test.YtimmobbginjkfaaCaW9
import Derived.Test.YtimmobbginjkfaaCaW10
import Derived.Test.YtimmobbginjkfaaCaCodeL
set_option linter.unusedSimpArgs false
set_option linter.unusedVariables false
set_option linter.unnecessarySimpa false
namespace Go.Proofs.Ytimmobbginjkfaa
open Go Go.Sx Go.Ca
set_option maxRecDepth 100000
theorem call_all {C : Cx} {E : Env} {d : Option Nat} {args : List Operand} {l : List XS} {k : List KI} {F : List (Nat × SV)} (gc gs : Nat) (c : Ca) (ok : CaOk c) (r : List SO) (hP : C.P = Try.prog) (hargs : denL (caF gc gs c ++ r) (evL F args) = some [.pointer (some ⟨gc, 0, none⟩)])
  (next : ∀ (es : List En) (B : Option Addr) (bc : Nat), es.Perm (hlTo c c.n) → (es.Pairwise fun x y => x.line ≤ y.line) → G C E (.ops l :: k) { F := putF F d (.own (caF gc gs c ++ r).length 0), H := (caF gc gs c ++ r) ++ [.own 44 0 21 B es.length bc (esV es)] }) :
  G C E (.ops ({ dst := d, guard := none, i := .call 11 args } :: l) :: k) { F := F, H := caF gc gs c ++ r } := by
 refine call_rule hargs (R := fun W v W' => ∃ (es : List En) (B : Option Addr) (bc : Nat), es.Perm (hlTo c c.n) ∧ (es.Pairwise fun x y => x.line ≤ y.line) ∧ v = .slice B es.length bc ∧ HeapOk ⟨W, W.heap.size, fps (caF gc gs c), 0, []⟩ (caF gc gs c ++ [.own 44 0 21 B es.length bc (esV es)]) W') (fun W hW => ?_) fun W v W' hW ⟨es, B, bc, hp, hs, hv, hk⟩ => ?_
 ·rw [hP]
  exact all11 gc gs c ok W W.heap.size _ 0 [] (hW.lend (caF_pre gc gs c) 0 [])
 ·refine ⟨.own (caF gc gs c ++ r).length 0, _, ?_, HExt.push _ _, unlendN hW hk (caF_pre gc gs c), next es B bc hp hs⟩
  rw [hv]
  simp only [Is]
  exact ⟨44, 0, 21, B, es.length, bc, esV es, by rw [nth_eq]; simp, Nat.le_refl _, ⟨_, _, _, rfl⟩, fun _ => rfl⟩
def d1 : Nat → Int := fun k => if k = 0 then 1 else 0
def enSV (e : En) : List SV := [.val (.int .i64 e.line), .val (.int .i64 e.st), .val (.bool e.rd), .val (.bool e.wr), .val (.int .u64 (e.d 0)), .val (.int .u64 (e.d 1)), .val (.int .u64 (e.d 2)), .val (.int .u64 (e.d 3)), .val (.int .u64 (e.d 4)), .val (.int .u64 (e.d 5)), .val (.int .u64 (e.d 6)), .val (.int .u64 (e.d 7)), .val (.int .u64 (e.o 0)), .val (.int .u64 (e.o 1)), .val (.int .u64 (e.o 2)), .val (.int .u64 (e.o 3)), .val (.int .u64 (e.o 4)), .val (.int .u64 (e.o 5)), .val (.int .u64 (e.o 6)), .val (.int .u64 (e.o 7)), .val (.int .i64 e.used)]
theorem enSV_is (H : List SO) (e : En) : Is H (.agg (enSV e)) (.agg (enV e).toArray) := by simp only [Is]; exact ⟨enV e, by simp [enSV, enV, IsL, Is], rfl⟩
end Go.Proofs.Ytimmobbginjkfaa
