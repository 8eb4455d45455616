/- opt.Fold, in plain words. -/
import Derived.Test.YtlbiogokpadaoaaGreatDoorFlPlain
set_option linter.unusedSimpArgs false
set_option linter.unusedVariables false
set_option linter.unnecessarySimpa false
namespace Go.Isa
open Go
def St0:List (Option Int):=List.replicate 8 none
def rgO (s:List (Option Int)):List Int:=s.map fun o=>o.getD 0
def knO (s:List (Option Int)) (n:Int):Bool:=(s.getD n.toNat none).isSome
theorem rgO_len {s:List (Option Int)} (h:s.length=8):(rgO s).length=8:=by simp[rgO,h]
def smallU (v:Int):Bool:=decide (v≤2147483647) || decide (18446744071562067968≤v)
def sgnU (v:Int):Int:=if v≤9223372036854775807 then v else v - 18446744073709551616
def brG (x:In):Bool:=legalB x && (decide (0≤x.imm) && decide (x.imm≤1024)) && (decide (14≤x.op) && decide (x.op≤16))
def foldK (x:In) (s:List (Option Int)):Bool:=if x.op=2 then true else if x.op=3 then knO s x.b else knO s x.b && knO s x.c
def foldI (x:In) (s:List (Option Int)) (p:Nat):In × List (Option Int) :=
 if !legalB x then (x,s)
 else if brG x then (if knO s x.a && knO s x.b then (⟨13,0,0,0,(doB x (rgO s) p).next⟩,s) else (x,s))
 else if x.op=11 then (x,s.set x.a.toNat none)
 else if x.op < 2∨10 < x.op then (x,s)
 else if foldK x s then (if x.op ≠ 2∧smallU (doB x (rgO s) p).value=true then ⟨2,x.a,0,0,sgnU (doB x (rgO s) p).value⟩ else x,s.set x.a.toNat (some (doB x (rgO s) p).value))
 else (x,s.set x.a.toNat none)
def stA (l:List In) (bs:List Int):Nat→List (Option Int)
 | 0=>St0
 | i+1=>if bs.contains (((i+1:Nat)):Int) then St0 else match l[i]? with | some x=>(foldI x (stA l bs i) i).2 | none=>St0
def foldA (l:List In) (i:Nat) (x:In):In:=(foldI x (stA l (bgL l) i) i).1
def foldL (l:List In):List In:=l.mapIdx (foldA l)
theorem zj1c (l:List In):(foldL l).length=l.length:=by simp[foldL]
theorem foldL_get {l:List In} {i:Nat} {x:In} (h:l[i]? = some x):(foldL l)[i]? = some (foldA l i x):=by
 unfold foldL; rw[List.getElem?_mapIdx,h]; rfl
theorem stA_beg {l:List In} {bs:List Int} {i:Nat} (h:(i:Int) ∈ bs):stA l bs i=St0:=by
 cases i with
 | zero=>rfl
 | succ i =>
  unfold stA
  rw[if_pos (by simpa using h)]
theorem stA_mid {l:List In} {bs:List Int} {i:Nat} {x:In} (hx:l[i]? = some x) (h:(((i+1:Nat)):Int) ∉ bs):stA l bs (i+1)=(foldI x (stA l bs i) i).2:=by
 conv=>lhs; unfold stA
 rw[if_neg (by simpa using h),hx]
theorem part_mid {l:List In} {n:Nat} {x:Int} {p:Nat} (hx:(bgL l)[n]? = some x) (h1:x < p) (h2:(p:Int) < toL l.length (bgL l) n):(p:Int) ∉ bgL l:=by
 intro hm
 have hg:=zj7g (bgL_up l) hm
 have hn:n < posI (bgL l) (p:Int):=(posI_below (bgL_up l) hx).2 h1
 unfold toL at h2
 cases hk:(bgL l)[n+1]? with
 | none =>
  have:=posI_lt (bgL_up l) hm
  have h3:(bgL l).length≤n+1:=List.getElem?_eq_none_iff.1 hk
  omega
 | some z =>
  rw[hk] at h2
  simp only[Option.getD_some] at h2
  rcases Nat.lt_or_ge (n+1) (posI (bgL l) (p:Int)) with h | h
  ·have:=up_get (bgL_up l) hk hg h; omega
  ·have e:posI (bgL l) (p:Int)=n+1:=by omega
   rw[e,hk] at hg
   injection hg with hg
   omega
end Go.Isa
