/- Rows: an argument that is eight registers; a number's bounds. -/
import Derived.Test.YtgghmmjoplddbaaGreatDoorDkFlat
import Derived.Test.YtgghmmjoplddbaaGreatDoorIsaSpec
set_option linter.unusedSimpArgs false
set_option linter.unusedVariables false
set_option linter.unnecessarySimpa false
namespace Go.Dk
open Go Go.ChangeShapes Go.WideShapes Go.ChangeAt Go.RowKit Go.Deep Go.Sx Go.Isa
theorem wfU {n:Int} (h:(Lit.int .u64 n).wf=true):isU n:=by
 simp[Lit.wf,IntKind.min,IntKind.max,IntKind.signed,IntKind.bits] at h
 unfold isU; omega
theorem zj5m {P:Program} {w:World} {r:Reach} {base:Nat} {t e:TypeId} {n:Nat} {v:Value} (ht:P.underlying t=some (.array n e)) (h:Value.okWide P w r base t v):∃ cs,v=.agg cs∧cs.size=P.cellsOf t:=by
 simp only[Value.okWide,ht] at h
 obtain⟨cs,h1,h2,_⟩:=h
 exact⟨cs,h1,h2⟩
theorem open_regs2 {H:Type} {enc:TypeId × Value→H} {P:Program} {W:World} {r:Reach} {b0:Nat} {base:Nat} {spare:Nat→Bool} {held:Bool} {t e:TypeId} {n:Nat} {v:Value} {d:DataW H} {p:List MemPlace} (hu:P.underlying t=some (.array n e)) (hi:Dk.intsT P 4 t=some (List.replicate 16 .u64))
  (hv:Value.okWide P W r b0 t v) (h:DataW.Trod enc P W base spare held t v d p):∃ x y:List Int,v=.agg ((x++y).map uV).toArray∧x.length=8∧y.length=8∧(∀ n ∈ x,isU n)∧(∀ n ∈ y,isU n)∧p=[]∧∀ (w':World) (b':Nat) (s':Nat→Bool) (h':Bool),DataW.Trod enc P w' b' s' h' t v d []:=by
 obtain⟨cs,rfl,_⟩:=zj5m hu hv
 obtain⟨fuel,hf⟩:=h
 obtain⟨hk,hp,hal⟩:=Dk.trod_ints 4 t fuel _ _ (d,p) hi hf
 simp only[List.replicate,Dk.Ks] at hk
 obtain⟨a0,_,e1,h0,a1,_,rfl,h1,a2,_,rfl,h2,a3,_,rfl,h3,a4,_,rfl,h4,a5,_,rfl,h5,a6,_,rfl,h6,a7,_,rfl,h7,a8,_,rfl,h8,a9,_,rfl,h9,a10,_,rfl,h10,a11,_,rfl,h11,a12,_,rfl,h12,a13,_,rfl,h13,a14,_,rfl,h14,a15,_,rfl,h15,rfl⟩:=hk
 have hp:p=[]:=hp
 subst hp
 refine⟨[a0,a1,a2,a3,a4,a5,a6,a7],[a8,a9,a10,a11,a12,a13,a14,a15],?_,rfl,rfl,?_,?_,rfl,fun w' b' s' h'=>⟨fuel,hal w' b' s' h'⟩⟩
 ·show Value.agg cs=Value.agg _
  congr 1
  rw[← Array.toList_inj]
  exact e1
 ·simp only[List.forall_mem_cons,List.not_mem_nil,false_implies,implies_true,and_true]
  exact⟨wfU h0,wfU h1,wfU h2,wfU h3,wfU h4,wfU h5,wfU h6,wfU h7⟩
 ·simp only[List.forall_mem_cons,List.not_mem_nil,false_implies,implies_true,and_true]
  exact⟨wfU h8,wfU h9,wfU h10,wfU h11,wfU h12,wfU h13,wfU h14,wfU h15⟩
theorem open_u64s {H:Type} {enc:TypeId × Value→H} {P:Program} {W:World} {r:Reach} {b0:Nat} {base:Nat} {spare:Nat→Bool} {held:Bool} {t e:TypeId} {v:Value} {d:DataW H} {p:List MemPlace} (hu:P.underlying t=some (.slice e)) (hi:Dk.intsT P 1 e=some [.u64]) (hc:P.cellsOf e=1)
  (hv:Value.okWide P W r b0 t v) (h:DataW.Trod enc P W base spare held t v d p):∃ (A:Option Addr) (c:Nat) (l:List Int),v=.slice A l.length c∧RowAt W A (l.map uV)∧∀ n ∈ l,isU n:=by
 obtain⟨A,c,l,h1,_,h2,h3⟩:=open_rows (f:=fun n:Int=>[uV n]) (Q:=isU) 1 hu hi hc (fun _=>rfl) (fun cs hk=>by
  simp only[Dk.Ks] at hk
  obtain⟨a,_,rfl,h,rfl⟩:=hk
  exact⟨a,rfl,wfU h⟩) hv h
 refine⟨A,c,l,h1,?_,h3⟩
 have e:∀ l:List Int,l.flatMap (fun n:Int=>[uV n])=l.map uV:=fun l=>by
  induction l with
  | nil=>rfl
  | cons a l ih=>rw[List.flatMap_cons,ih]; rfl
 rw[e] at h2; exact h2
end Go.Dk
