/- flow: which part has a place, and what comes behind it, in plain words. -/
import Derived.Test.YtlbiogokpadaoaaGreatDoorFlDefs
set_option linter.unusedSimpArgs false
set_option linter.unusedVariables false
set_option linter.unnecessarySimpa false
namespace Go.Isa
open Go
end Go.Isa
namespace Go.Proofs.YtlbiogokpadaoaaGreatDoor
open Go Go.Sx Go.Isa
open Nat (reduceAdd reduceLT)
set_option maxRecDepth 100000
def PartsR (l:List In) (w:World) (v:Value) (w':World):Prop:=∃ (A:Option Addr) (c:Nat) (ps:List PR),v=.slice A ps.length c∧ps.map PR.pa=partsL l∧World.ownsB w' w.heap.size 35 3 (.slice A ps.length c) ps.length (cellsR ps)∧NxAt w' ps∧NxNew w.heap.size ps∧Fresh w w'
theorem zj47 {l:List In} {ps:List PR} (h:ps.map PR.pa=partsL l):ps.length=(bgL l).length:=by
 have:=congrArg List.length h
 rw[List.length_map,zj45] at this; exact this
theorem parts17 (l:List In) (B:Option Addr) (bc:Nat) (w:World) (hl:l.length≤1024) (hB:RowAt w B (cellsI l)) (hG:ShAt w) :
  CallsV Tryz.prog 17 [.slice B l.length bc] w fun v w'=>∃ u,v=.tuple #[u,.int .i64 0]∧PartsR l w u w':=by
 refine zj03 (keep:=K17) (nt:=9) (svs:=[.val (.slice B l.length bc)]) Tryz.func17 x17 n17 (by simp) (by simp[IsL,Is]) fun R hR=>?_
 (refine Y_go 600 ?_; dsimp only[go_sem,reduceAdd,Nat.reduceBEq])
 refine⟨fun h=>absurd (of_decide_eq_true h) (by omega),fun _=>?_⟩
 refine zj1w (vs:=[.slice B l.length bc]) rfl (R:=fun W v W'=>PartsR l W v W') (fun W hW=>parts33 l B bc W hl (hB.keep hW.fresh') (hG.keep hW.fresh')) (fun _ _ _ h=>by obtain⟨_,_,_,_,_,_,_,_,h⟩:=h; exact h) fun W v W' hW ⟨A,c,ps,hv,h1,h2,h3,h5,h4⟩ ov=>?_
 subst hv
 have hw1:Fresh w W':=Fresh.tr hW.fresh' h4
 have hlow:=zj2q h2 hW.fresh'.size
 refine⟨.val (.slice A ps.length c),by simp[Is],?_⟩
 have hfp:fps ([]:List SO)=[]:=rfl
 rw[hfp]
 (refine Y_go 600 ?_; dsimp only[go_sem,Nat.reduceBEq])
 exact zj02 (vs:=[_,_]) r17 rfl rfl fun W2 hW2=>hR _ _ ⟨_,rfl,A,c,ps,rfl,h1,zj6e hlow hW2.fresh',h3.keep hW2.fresh',h5.le hW.fresh'.size,Fresh.tr hw1 hW2.fresh'⟩
theorem parts17_big (n:Nat) (B:Option Addr) (bc:Nat) (w:World) (hl:1024 < n) :
  CallsV Tryz.prog 17 [.slice B n bc] w fun v w'=>v=.tuple #[.slice none 0 0,.int .i64 2]∧Fresh w w':=by
 refine zj03 (keep:=K17) (nt:=9) (svs:=[.val (.slice B n bc)]) Tryz.func17 x17 n17 (by simp) (by simp[IsL,Is]) fun R hR=>?_
 (refine Y_go 600 ?_; dsimp only[go_sem,reduceAdd,Nat.reduceBEq])
 exact⟨fun _=>zj02 (vs:=[_,_]) r17 rfl rfl fun W2 hW2=>hR _ _ ⟨rfl,hW2.fresh'⟩,fun h=>absurd (of_decide_eq_false h) (by omega)⟩
def bsV (o:List Bool):List Value:=o.map Value.bool
theorem bsV_len (o:List Bool):(bsV o).length=o.length:=by simp[bsV]
theorem bsV_get {o:List Bool} {i:Nat} {b:Bool} (h:o[i]? = some b):(bsV o)[i]? = some (.bool b):=by
 unfold bsV; rw[List.getElem?_map,h]; rfl
theorem bsV_set (o:List Bool) (i:Nat) (b:Bool):setn (bsV o) i (.bool b)=bsV (o.set i b):=by
 rw[zj0e]; unfold bsV; rw[List.map_set]
theorem zj6g:∀ n,repN n [Value.bool false]=bsV (List.replicate n false)
 | 0=>rfl
 | n+1=>by
  show Value.bool false :: repN n [Value.bool false]=_
  rw[zj6g n]; rfl
end Go.Proofs.YtlbiogokpadaoaaGreatDoor
