/- What the rows of this seat share: what is listed, and an argument that is a program. -/
import Derived.Deep.Slices
import Derived.Deep.Fields
import Derived.Test.YtlbiogokpadaoaaGreatDoorRows
import Derived.Test.YtlbiogokpadaoaaGreatDoorTie
import Derived.Test.YtlbiogokpadaoaaGreatDoorCards
import Derived.ProofKit
import Derived.Below
import Derived.Carry
import Derived.ChangeSame
import Derived.Lay
import Derived.MakeChecks
import Derived.SevenTiedAt
import Derived.Test.YtlbiogokpadaoaaGreatDoorDkFlat
import Derived.Test.YtlbiogokpadaoaaGreatDoorBgIsa1
set_option linter.unusedSimpArgs false
set_option linter.unusedVariables false
set_option linter.unnecessarySimpa false
namespace Go.Proofs.YtlbiogokpadaoaaGreatDoor
open Go Go.ChangeShapes Go.WideShapes Go.ChangeAt Go.RowKit Go.Deep Go.Sx Go.Isa
set_option maxRecDepth 100000
theorem Tryz.own:ownKnob Tryz.prog.godebug=none:=by kernel_rfl
theorem Tryz.laidOut:laidOutB Tryz.prog=true:=by kernel_rfl
section
variable {H:Type} {enc:TypeId × Value→H} {P:Program}
theorem post_of_below {f:Func} {s:ChangeSpec} {apart fresh handsOn again:Bool} {W W':World} {args:Array Value} {v:Value} {ds gs:List (DataW H)} {before pa pv:List MemPlace}
  (hW:DataW.Whole enc P f.params.toList s.vars apart W args.toList ds gs before)
  (hres:∀ (b:Nat) (sp:Nat→Bool) (hd:Bool),DataW.TrodAll enc P W' b sp hd f.resultTypes.toList (v.resultList f.resultTypes.size) (s.fn H (ds++gs)).results [])
  (hargs:∀ sp:Nat→Bool,(∀ p ∈ before,sp p.block=true)→DataW.TrodAll enc P W' 0 sp true f.params.toList args.toList (s.fn H (ds++gs)).args pa)
  (hvars:∀ sp:Nat→Bool,(∀ p ∈ before,sp p.block=true)→DataW.TrodVars enc P W' sp s.vars (s.fn H (ds++gs)).vars pv)
  (hps:before=pa++pv) (hb:Below W.heap.size W W')
  (hok:∀ (j:Nat) (t:TypeId) (r:Value),f.resultTypes[j]? = some t→(v.resultList f.resultTypes.size)[j]? = some r→Value.okWide P W' .any 0 t r) :
  s.post enc P f apart fresh handsOn again W args v W':=by
 have hlt:∀ p ∈ before,p.block < W.heap.size:=fun p hp=>hW.lt p hp
 have hold:∀ p ∈ before,(fun b=>decide (b < W.heap.size)) p.block=true:=fun p hp=>by simpa using hlt p hp
 refine⟨ds,gs,before,[],pa,pv,hW,hres _ _ _,hargs _ hold,hvars _ hold,World.keptBut_mono (fun p hp=>⟨hp,?_⟩) (hb.frame (· ∈ before)),fun _=>?_⟩
 ·rw[hps,List.mem_append] at hp
  exact Or.inr hp
 ·obtain⟨_,_,_,_,_,hz,hn⟩:=hW
  refine⟨hok,_,_,([]++pa)++pv,⟨[]++pa,pv,trodAll_append (hargs _ (fun _ _=>rfl)) (hres _ _ _),hvars _ (fun _ _=>rfl),rfl,?_,?_⟩,?_⟩
  ·intro b off hp
   have hin:MemPlace.cell b off ∈ before:=by rw[hps]; simpa using hp
   rw[hb.frozen (hlt _ hin)]
   exact hz b off hin
  ·intro ha
   have:=hn ha
   rw[hps] at this
   simpa using this
  ·intro p hp _
   rw[hps]
   simpa using hp
end
theorem sh_of_laid {w : World} {l : List (String × DataW Unit)} (h : laidMetH Tryz.prog l w) (hf : (l.filter fun x => x.1 == "shunt/isa.shapes") = [("shunt/isa.shapes", Rows.laid_shunt_isa_shapes)]) : ShAt w := by
 obtain ⟨h1, h2⟩ := Dk.laid_cells (k := 5) (g := 0) (t := (Tryz.prog.globals[0]?.map (·.type)).getD 0) (cs := shL) h (n := "shunt/isa.shapes") (d := Rows.laid_shunt_isa_shapes) hf (by kernel_rfl) (by kernel_rfl) (by kernel_rfl) (by kernel_rfl) (by kernel_rfl) (by decide)
 intro j u hj
 refine⟨_,rfl,h1,?_⟩
 have:=h2 j u hj
 have e:(⟨0,0,none⟩:Addr).add j=⟨0,j,none⟩:=by unfold Addr.add; split <;> simp_all
 rw[e]; exact this
section
variable {H:Type} {enc:TypeId × Value→H} {P:Program} {w:World} {base:Nat} {spare:Nat→Bool} {held:Bool}
theorem zj3d {t e:TypeId} {fs:Array Field} {fuel:Nat} {cs:List Value} {x:DataW H × List MemPlace} (ht:P.underlying t=some (.slice e)) (he:P.underlying e=some (.struct fs))
  (hone:oneCellFields P fs=true) (hC:P.cellsOf e=fs.size) (h:DataW.trod enc P w base spare held fuel t cs=some x) :
  (cs=[.slice none 0 0]∧x=(.nil,[])) ∨
  ∃ (a:Addr) (len cap m:Nat) (D:Nat→DataW H) (Pl:Nat→List MemPlace),cs=[.slice (some a) len cap]∧base≤a.block∧len≤cap∧cap≤maxLen∧m=(if spare a.block then cap else len) ∧
   x=(.slice ((List.range len).map D) ((List.range (m - len)).map fun j=>D (len+j)),MemPlace.row a (m*fs.size)++(List.range m).flatMap Pl) ∧
   ∀ i,i < m→∃ (ys:List (DataW H × List MemPlace)) (n:Nat),D i=.agg (ys.map (·.1))∧Pl i=ys.flatMap (·.2)∧ys.length=fs.size ∧
    ∀ (j:Nat) (f:Field),fs[j]? = some f→∃ (v:Value) (y:DataW H × List MemPlace),w.cell? (a.add (i*fs.size+j))=some v∧ys[j]? = some y∧DataW.trod enc P w base spare held n f.type [v]=some y:=by
 rcases open_slice ht h with h0 | ⟨a,len,cap,m,n,D,Pl,hcs,hb,hl,hm,hmm,hx,hi⟩
 ·exact .inl h0
 ·refine .inr ⟨a,len,cap,m,D,Pl,hcs,hb,hl,hm,hmm,by rw[hC] at hx; exact hx,fun i him=>?_⟩
  obtain⟨cs',hc,ht'⟩:=hi i him
  rw[hC] at hc
  obtain⟨ys,n',hn',hy,hlen,hyl,hf⟩:=DataW.trod_struct he ht'
  obtain⟨_,hcl,hat⟩:=World.cells?_some hc
  simp only[Prod.mk.injEq] at hy
  refine⟨ys,n',hy.1,hy.2,hyl,fun j f hj=>?_⟩
  obtain⟨ho,hk⟩:=hone_of hone j f hj
  have hjl:j < fs.size:=(Array.getElem?_eq_some_iff.1 hj).1
  have hcell:=hat j hjl
  have hv:cs'[j]? = some (cs'[j]'(by omega)):=List.getElem?_eq_getElem (by omega)
  have h1:=hf j f hj
  rw[ho,hk] at h1
  have hone':(cs'.drop j).take 1=[cs'[j]'(by omega)]:=by
   rw[List.drop_eq_getElem_cons (by omega)]
   rfl
  rw[hone'] at h1
  have hys:ys[j]? = some (ys[j]'(by omega)):=List.getElem?_eq_getElem (by omega)
  refine⟨_,_,?_,hys,h1.trans hys⟩
  rw[← Go.Deep.add_add,hcell,hv]
end
theorem rowAtI {w:World} {a:Addr} (n:Nat) (h:∀ i,i < n→∃ x:In,∀ k v,x.cells[k]? = some v→w.cell? (a.add (i*5+k))=some v):∃ l:List In,l.length=n∧RowAt w (some a) (cellsI l):=by
 induction n with
 | zero=>exact⟨[],rfl,fun j u hj=>by simp[cellsI] at hj⟩
 | succ n ih =>
  obtain⟨l,hl,hr⟩:=ih fun i hi=>h i (by omega)
  obtain⟨x,hx⟩:=h n (by omega)
  refine⟨l++[x],by simp[hl],fun j u hj=>?_⟩
  rw[zj1m] at hj
  by_cases hlt:j < (cellsI l).length
  ·rw[List.getElem?_append_left hlt] at hj; exact hr j u hj
  ·rw[List.getElem?_append_right (by omega)] at hj
   have e:cellsI [x]=x.cells:=by simp[cellsI]
   rw[e] at hj
   have hc:=hx _ _ hj
   have ej:n*5+(j - (cellsI l).length)=j:=by rw[zj06,hl] at *; omega
   rw[ej] at hc
   refine⟨a,rfl,?_,hc⟩
   unfold World.cell? at hc
   rw[zj1p] at hc
   split at hc
   ·rename_i e; exact (Array.getElem?_eq_some_iff.1 e).1
   ·cases hc
theorem one_cell {W:World} {base:Nat} {v:Value} {A:Option Addr} {n c:Nat} {t e:TypeId} (hu:Tryz.prog.underlying t=some (.slice e)) (h:Value.okWide Tryz.prog W .any base t v) (e:v.cells.toList=[.slice A n c]):v=.slice A n c:=by
 obtain⟨a,l,d,rfl⟩:=okWide_slice hu h
 simpa [Value.cells] using e
theorem open_prog {H:Type} {enc:TypeId × Value→H} {W:World} {base:Nat} {v1:Value} {d1:DataW H} {p1:List MemPlace} (hval:Value.okWide Tryz.prog W .any base 22 v1) (h1:DataW.Trod enc Tryz.prog W 0 (fun _=>true) true 22 v1 d1 p1) :
  ∃ (A:Option Addr) (c:Nat) (l:List In),v1=.slice A l.length c∧RowAt W A (cellsI l):=by
 obtain⟨n0,h1'⟩:=h1
 rcases zj3d Tryz.underlying22 Tryz.underlying41 (by kernel_rfl) (by kernel_rfl) h1' with⟨e1,_⟩ | ⟨a,len,cap,m,D,Pl,e1,_,hl,hc,hm,_,hf⟩
 ·refine⟨none,0,[],?_,fun j u hj=>by simp[cellsI] at hj⟩
  exact one_cell Tryz.underlying22 hval e1
 ·have hm:m=cap:=by simpa using hm
  obtain⟨l,hl2,hr⟩:=rowAtI (w:=W) (a:=a) len (fun i hi=>by
   obtain⟨ys,n,_,_,_,hj⟩:=hf i (by omega)
   have fld:∀ (v:Value) (n:Nat) (y:DataW H × List MemPlace) (k:Nat),W.cell? (a.add (i*5+k))=some v→DataW.trod enc Tryz.prog W 0 (fun _=>true) true n 3 [v]=some y→∃ z:Int,W.cell? (a.add (i*5+k))=some (.int .i64 z):=by
    intro v n y k hc ht
    obtain⟨z,hz,_⟩:=DataW.trod_int Tryz.underlying3 ht
    simp only[List.cons.injEq,and_true] at hz
    exact⟨z,by rw[hc,hz]⟩
   obtain⟨v0,y0,c0,_,t0⟩:=hj 0 _ rfl
   obtain⟨v1,y1,c1,_,t1⟩:=hj 1 _ rfl
   obtain⟨v2,y2,c2,_,t2⟩:=hj 2 _ rfl
   obtain⟨v3,y3,c3,_,t3⟩:=hj 3 _ rfl
   obtain⟨v4,y4,c4,_,t4⟩:=hj 4 _ rfl
   obtain⟨z0,g0⟩:=fld v0 n y0 0 c0 t0
   obtain⟨z1,g1⟩:=fld v1 n y1 1 c1 t1
   obtain⟨z2,g2⟩:=fld v2 n y2 2 c2 t2
   obtain⟨z3,g3⟩:=fld v3 n y3 3 c3 t3
   obtain⟨z4,g4⟩:=fld v4 n y4 4 c4 t4
   refine⟨⟨z0,z1,z2,z3,z4⟩,fun k v hk=>?_⟩
   have hk5:k < 5:=(List.getElem?_eq_some_iff.1 hk).1
   have:k=0∨k=1∨k=2∨k=3∨k=4:=by omega
   rcases this with rfl | rfl | rfl | rfl | rfl <;> simp only[In.cells,List.getElem?_cons_zero,List.getElem?_cons_succ,Option.some.injEq] at hk <;> subst hk <;> assumption)
  refine⟨some a,cap,l,?_,hr⟩
  rw[hl2]
  exact one_cell Tryz.underlying22 hval e1
end Go.Proofs.YtlbiogokpadaoaaGreatDoor
