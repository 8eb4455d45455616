/- The document's drop. -/
import Derived.Test.YtlbiogokpadaoaaGreatDoorFlPlain
import Derived.Test.YtlbiogokpadaoaaGreatDoorBgIsa3
import Derived.Test.YtlbiogokpadaoaaGreatDoorBgCodeDrop
set_option linter.unusedSimpArgs false
set_option linter.unusedVariables false
set_option linter.unnecessarySimpa false
namespace Go.Proofs.YtlbiogokpadaoaaGreatDoor
open Go Go.Sx Go.Isa
open Nat (reduceAdd reduceLT)
set_option maxRecDepth 100000
def bV (o:List Bool):List Value:=o.map Value.bool
theorem bV_get {o:List Bool} {j:Nat} (h:j < o.length):(bV o)[j]? = some (.bool (o.getD j false)):=by
 unfold bV
 rw[List.getElem?_map,List.getElem?_eq_getElem h]
 simp[List.getD,List.getElem?_eq_getElem h]
theorem bV_len (o:List Bool):(bV o).length=o.length:=by simp[bV]
def gB (g:List Bool) (i:Nat):Bool:=g.getD i false
structure D94 where
 i:Nat
 A:Option Addr
 c:Nat
theorem zj4i {g g':Nat→Bool}:∀ n,(∀ k,k < n→g k=g' k)→leftN g n=leftN g' n
 | 0,_=>rfl
 | n+1,h=>by simp only[leftN,zj4i n (fun k hk=>h k (by omega)),h n (by omega)]
theorem adjI_congr {g g':Nat→Bool} {n:Nat} (h:∀ k,k < n→g k=g' k) (x:In):adjI g n x=adjI g' n x:=by
 unfold adjI
 split
 ·rename_i hx
  have h0:=zj1y hx.1
  rw[zj4i _ fun k hk=>h k (by omega)]
 ·rfl
theorem zj43 {g g':Nat→Bool} {l:List In} (h:∀ k,k < l.length→g k=g' k):∀ i,i≤l.length→dropTo g l i=dropTo g' l i
 | 0,_=>rfl
 | i+1,hi=>by
  have hx:l[i]? = some (l[i]'(by omega)):=List.getElem?_eq_getElem (by omega)
  simp only[dropTo,zj43 h i (by omega),hx,h i (by omega),adjI_congr h]
theorem dropP_congr {g g':Nat→Bool} {l:List In} (h:∀ k,k < l.length→g k=g' k):dropP g l=dropP g' l:=zj43 h _ (Nat.le_refl _)
def gl (f:Nat→Bool) (n i:Nat):List Bool:=(List.range n).map fun k=>decide (k < i) && f k
theorem gl_zero (f:Nat→Bool) (n:Nat):repN n [Value.bool false]=bV (gl f n 0):=by
 have:gl f n 0=List.replicate n false:=by
  refine List.ext_getElem (by simp[gl]) fun i h1 h2=>?_
  simp[gl]
 rw[this,bV,List.map_replicate]
 clear this
 induction n with
 | zero=>rfl
 | succ n ih=>simp only[repN,List.replicate_succ,ih]; rfl
theorem bV_set {o:List Bool} {j:Nat} {b:Bool}:setn (bV o) j (.bool b)=bV (o.set j b):=by
 rw[zj0j]; unfold bV; rw[List.map_set]
structure S63 where
 r:Nat
 m:List In
 A:Option Addr
 c:Nat
end Go.Proofs.YtlbiogokpadaoaaGreatDoor
