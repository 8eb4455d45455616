/- flow: parts in memory. -/
import Derived.Test.YtgghmmjoplddbaaGreatDoorZFlW2
set_option linter.unusedSimpArgs false
set_option linter.unusedVariables false
set_option linter.unnecessarySimpa false
namespace Go.Isa
open Go Go.Sx
structure PR where
 pa:Pa
 A:Option Addr
 c:Nat
def PR.cells (p:PR):List Value:=[.int .i64 p.pa.fr,.int .i64 p.pa.to,.slice p.A p.pa.nx.length p.c]
def cellsR (ps:List PR):List Value:=ps.flatMap PR.cells
theorem PR.cells_len (p:PR):p.cells.length=3:=rfl
theorem cellsR_snoc (ps:List PR) (p:PR):cellsR (ps++[p])=cellsR ps++p.cells:=by simp[cellsR]
theorem zj49 {ps:List PR} {i k:Nat} {p:PR} (hi:ps[i]? = some p) (hk:k < 3):(cellsR ps)[i*3+k]? = p.cells[k]? := by
 obtain⟨h1,h2⟩:=List.getElem?_eq_some_iff.1 hi
 unfold cellsR
 rw[zj33 PR.cells_len ps h1 hk,h2]
def NxAt (w:World) (ps:List PR):Prop:=∀ p ∈ ps,RowAt w p.A (isV p.pa.nx)
def NxE (E:Env) (ps:List PR):Prop:=∀ p ∈ ps,RowE E p.A (isV p.pa.nx)
theorem NxAt.keep {w w':World} {ps:List PR} (h:NxAt w ps) (k:Fresh w w'):NxAt w' ps:=fun p hp=>(h p hp).keep k
theorem NxE.over {E E':Env} {ps:List PR} (h:NxE E ps) (o:Over E E'):NxE E' ps:=fun p hp=>(h p hp).over o
theorem NxE.atM {E0 E:Env} {ps:List PR} {H:List SO} {W W':World} (h:NxE E ps) (hm:MarksOk E0 E) (hW:HeapOk E H W) (hk:Keep (fun j=>j ∉ E.marks) W W'):NxAt W' ps:=fun p hp=>(h p hp).atM hm hW hk
theorem NxE.snoc {E:Env} {ps:List PR} {p:PR} (h:NxE E ps) (hp:RowE E p.A (isV p.pa.nx)):NxE E (ps++[p]):=fun q hq=>by
 rcases List.mem_append.1 hq with e | e
 ·exact h q e
 ·simp only[List.mem_singleton] at e; subst e; exact hp
def NxNew (n:Nat) (ps:List PR):Prop:=∀ p ∈ ps,∀ a,p.A=some a→n≤a.block
theorem NxNew.nil (n:Nat):NxNew n []:=fun p hp=>by simp at hp
theorem NxNew.snoc {n:Nat} {ps:List PR} {p:PR} (h:NxNew n ps) (hp:∀ a,p.A=some a→n≤a.block):NxNew n (ps++[p]):=fun q hq=>by
 rcases List.mem_append.1 hq with e | e
 ·exact h q e
 ·simp only[List.mem_singleton] at e; subst e; exact hp
theorem NxNew.le {n m:Nat} {ps:List PR} (h:NxNew n ps) (hm:m≤n):NxNew m ps:=fun p hp a ha=>Nat.le_trans hm (h p hp a ha)
end Go.Isa
namespace Go.Proofs.YtgghmmjoplddbaaGreatDoor
open Go Go.Sx Go.Isa
open Nat (reduceAdd reduceLT)
set_option maxRecDepth 100000
theorem rng33 {b:World} {N:Nat} {st mk:List Nat} {l:List In} {p:Nat} {x:In} {B:Option Addr} {bc:Nat} {bA oA:Option Addr} {bC oC g3 g7 g1 g2:Nat} {fr to:Int} {ps:List PR} {R:Value→World→Prop} {k:List KI}
  (hx:l[p]? = some x) (hl:l.length≤1024) (hB:RowE ⟨b,N,st,60,mk⟩ B (cellsI l)) (hG:RowE ⟨b,N,st,60,mk⟩ (some ⟨0,0,none⟩) shL)
  (hK:∀ (D:Nat) (A':Option Addr) (c':Nat) (zs:List Int),zs=(goesL l.length p x).map (fun t=>(posI (bgL l) t:Int))→G (cxM Tryz.prog Tryz.f88 K88 T88 R) ⟨b,N,st,60,D :: mk⟩ k { F:=[(37,.fn (.func 124) [] [.ptr 4 0,.ptr 5 0]),(0,.val (.slice B l.length bc)),(3,.ptr 1 0),(4,.own 2 0),(7,.ptr 3 0),(11,.own 0 0),(12,.val (.int .i64 ((bgL l).length:Int))),(13,.val (.int .i64 (ps.length:Int)))],H:=[.own 3 0 1 bA (bgL l).length bC (isV (bgL l)),.cells g3 77 [.own 0 0],.own 123 0 3 oA ps.length oC (cellsR ps),.cells g7 123 [.val (.int .i64 fr),.val (.int .i64 to),.own 6 0],.cells g1 22 [.val (.slice B l.length bc)],.cells g2 3 [.val (.int .i64 (p:Int))],.own 3 0 1 A' zs.length c' (isV zs),.obj D (.deferred (some []))] }) :
  G (cxM Tryz.prog Tryz.f88 K88 T88 R) ⟨b,N,st,60,mk⟩ (.code (.rng (.tmp 37) [38] (.ops [⟨some 8,none,.k (.mov (.tmp 38))⟩]) (.ref 1)) :: k) { F:=[(37,.fn (.func 124) [] [.ptr 4 0,.ptr 5 0]),(0,.val (.slice B l.length bc)),(3,.ptr 1 0),(4,.own 2 0),(7,.ptr 3 0),(11,.own 0 0),(12,.val (.int .i64 ((bgL l).length:Int))),(13,.val (.int .i64 (ps.length:Int)))],H:=[.own 3 0 1 bA (bgL l).length bC (isV (bgL l)),.cells g3 77 [.own 0 0],.own 123 0 3 oA ps.length oC (cellsR ps),.cells g7 123 [.val (.int .i64 fr),.val (.int .i64 to),.own 6 0],.cells g1 22 [.val (.slice B l.length bc)],.cells g2 3 [.val (.int .i64 (p:Int))],.own 3 0 1 none 0 0 []] }:=by
 have hlt:p < l.length:=some_lt9 hx
 have hne:l ≠ []:=by intro e; subst e; simp at hlt
 have hb0:0 < (bgL l).length:=bgL_pos hne
 have hbn:(bgL l).length≤1000000000:=by have:=bgL_len l; omega
 have hbs:(bgL l).Pairwise (·≤·):=(bgL_up l).imp fun h=>Int.le_of_lt h
 have hi1:((p:Nat):Int).toNat=p:=by omega
 have hxl:l[p]=x:=(List.getElem?_eq_some_iff.1 hx).2
 have cl:∀ k v,k < 5→x.cells[k]? = some v→CellAt ⟨b,N,st,53,[]⟩ B (p*5+k) v:=fun k v hk hv=>by
  have h:=hB.cell (j:=p*5+k) (u:=v) (by rw[zj0y l hlt hk,hxl]; exact hv)
  exact h
 have sB:B.isSome=true:=hB.isSome (j:=p*5) (by rw[zj0o]; omega)
 refine zj34 rfl rfl (gf:=124) (caps:=[.pointer (some ⟨g1,0,none⟩),.pointer (some ⟨g2,0,none⟩)]) rfl rfl ?_
 intro D lno rec hrec R' hend hjump W1 hW1
 refine zj2k (keep:=K124) (nt:=53) (E:=⟨b,N,st,60,mk⟩) (svs:=[.val (.func (.yield lno) #[] #[]),.ptr 4 0,.ptr 5 0]) Tryz.func124 x124 n124 (by simp) hW1 (by simp[IsL,Is,blk,nth]) ?_
 (refine Y_go 600 ?_; dsimp only[go_sem,reduceAdd,Nat.reduceBEq])
 rw[hi1]
 refine⟨⟨by omega,by omega,sB⟩,_,cl 0 _ (by omega) rfl,_,cl 1 _ (by omega) rfl,_,cl 2 _ (by omega) rfl,_,cl 3 _ (by omega) rfl,_,cl 4 _ (by omega) rfl,fun g=>?_⟩
 have fin0:∀ (A':Option Addr) (c':Nat) (zs':List Int) (r:List SO) W,zs'=(goesL l.length p x).map (fun t=>(posI (bgL l) t:Int))→(none=A'∧0=c'∧[]=zs')→HeapOk ⟨b,N,st,53,[]⟩ ([.own 3 0 1 bA (bgL l).length bC (isV (bgL l)),.cells g3 77 [.own 0 0],.own 123 0 3 oA ps.length oC (cellsR ps),.cells g7 123 [.val (.int .i64 fr),.val (.int .i64 to),.own 6 0],.cells g1 22 [.val (.slice B l.length bc)],.cells g2 3 [.val (.int .i64 (p:Int))],.own 3 0 1 A' zs'.length c' (isV zs'),.obj D (.deferred (some [])),.obj lno (.loop rec),.cells g 47 (In.sv x)]++r) W→R' (tupOf []) W:=by
  rintro A' c' zs' r W hgo ⟨rfl,rfl,rfl⟩ hW
  refine hend _ _ W rfl (zj05 ?_) (HeapOk.env (E:=⟨b,N,st,53,[]⟩) (E':=⟨b,N,st,60,mk⟩) rfl rfl rfl hW) ?_
  ·simp[extB,SO.blk,bump,isV]
  exact fun a W rep=>hK D none 0 [] hgo a W (rep.res.lq)
 have fin1:∀ (A':Option Addr) (c':Nat) (zs':List Int) (r:List SO) W,zs'=(goesL l.length p x).map (fun t=>(posI (bgL l) t:Int))→HeapOk ⟨b,N,st,53,[]⟩ ([.own 3 0 1 bA (bgL l).length bC (isV (bgL l)),.cells g3 77 [.own 0 0],.own 123 0 3 oA ps.length oC (cellsR ps),.cells g7 123 [.val (.int .i64 fr),.val (.int .i64 to),.own 6 1],.cells g1 22 [.val (.slice B l.length bc)],.cells g2 3 [.val (.int .i64 (p:Int))],.own 3 1 1 A' zs'.length c' (isV zs'),.obj D (.deferred (some [])),.obj lno (.loop rec),.cells g 47 (In.sv x)]++r) W→R' (tupOf []) W:=by
  rintro A' c' zs' r W hgo hW
  refine hend _ _ W rfl (zj05 ?_) (HeapOk.env (E:=⟨b,N,st,53,[]⟩) (E':=⟨b,N,st,60,mk⟩) rfl rfl rfl hW) ?_
  ·simp[extB,SO.blk,bump]
  exact fun a W rep=>hK D A' c' zs' hgo a W (rep.res.lq)
 have fin2:∀ (A':Option Addr) (c':Nat) (zs':List Int) (r:List SO) W,zs'=(goesL l.length p x).map (fun t=>(posI (bgL l) t:Int))→HeapOk ⟨b,N,st,53,[]⟩ ([.own 3 0 1 bA (bgL l).length bC (isV (bgL l)),.cells g3 77 [.own 0 0],.own 123 0 3 oA ps.length oC (cellsR ps),.cells g7 123 [.val (.int .i64 fr),.val (.int .i64 to),.own 6 2],.cells g1 22 [.val (.slice B l.length bc)],.cells g2 3 [.val (.int .i64 (p:Int))],.own 3 2 1 A' zs'.length c' (isV zs'),.obj D (.deferred (some [])),.obj lno (.loop rec),.cells g 47 (In.sv x)]++r) W→R' (tupOf []) W:=by
  rintro A' c' zs' r W hgo hW
  refine hend _ _ W rfl (zj05 ?_) (HeapOk.env (E:=⟨b,N,st,53,[]⟩) (E':=⟨b,N,st,60,mk⟩) rfl rfl rfl hW) ?_
  ·simp[extB,SO.blk,bump]
  exact fun a W rep=>hK D A' c' zs' hgo a W (rep.res.lq)
 have sec0:[]++(if !(x.op == 13) && decide (p+1 < l.length) then [(posI (bgL l) ((p:Int)+1):Int)] else [])=(goesL l.length p x).map (fun t=>(posI (bgL l) t:Int)) →
   G (cxOf Tryz.prog Tryz.f124 K124 T124 R') ⟨b,N,st,53,[]⟩ [.code (.ref 1)] { F:=[(0,.val (.func (.yield lno) #[] #[])),(1,.ptr 4 0),(2,.ptr 5 0),(4,.ptr 9 0)],H:=[.own 3 0 1 bA (bgL l).length bC (isV (bgL l)),.cells g3 77 [.own 0 0],.own 123 0 3 oA ps.length oC (cellsR ps),.cells g7 123 [.val (.int .i64 fr),.val (.int .i64 to),.own 6 0],.cells g1 22 [.val (.slice B l.length bc)],.cells g2 3 [.val (.int .i64 (p:Int))],.own 3 0 1 none 0 0 [],.obj D (.deferred (some [])),.obj lno (.loop rec),.cells g 47 (In.sv x)] }:=by
  intro hgo
  (refine Y_go 600 ?_; dsimp only[go_sem,In.sv,Nat.reduceBEq,reduceAdd])
  refine⟨fun h13=>⟨((p+1:Nat):Int),ArOk.to (by omega) (by omega) (by omega),fun hlt2=>⟨((p+1:Nat):Int),ArOk.to (by omega) (by omega) (by omega),?_⟩,fun hge2=>zj0u (vs:=[]) r124 rfl rfl fun W hW=>fin0 none 0 [] [] W ?_ ⟨rfl,rfl,rfl⟩ hW⟩,fun h13=>zj0u (vs:=[]) r124 rfl rfl fun W hW=>fin0 none 0 [] [] W ?_ ⟨rfl,rfl,rfl⟩ hW⟩
  ·have h13:(!(x.op == 13))=true:=h13
   have hlt2:p+1 < l.length:=by have:=of_decide_eq_true hlt2; omega
   have hgo:[]++[(posI (bgL l) ((p+1:Nat):Int):Int)]=(goesL l.length p x).map (fun t=>(posI (bgL l) t:Int)):=by rw[← hgo,h13,decide_eq_true hlt2]; rfl
   refine zj0x (C':=cxOf Tryz.prog Tryz.f124 K124 T124 R') (E:=⟨b,N,st,60,mk⟩) (i:=8) (rec:=rec) (lno:=lno) (keep:=K88) ?_ ?_ ?_ hrec ?_ ?_ ?_ ?_ ?_ ?_
   ·rfl
   ·rfl
   ·rfl
   ·simp
   ·rfl
   ·rfl
   ·rfl
   ·exact zj05 (by simp[extB,SO.blk,bump])
   intro J Q' hQ' hbeg hnorm hjmp
   have hF:zj0e (fun _ _ _=>False):=fun _ _ _ h=>h
   (refine zj0c hF 100 ?_; dsimp only[go_sem,Nat.reduceBEq,setPs])
   refine zj02 fun a W rep=>hbeg _ _ rfl ?_ a W rep
   (refine zj0c hQ' 100 ?_; dsimp only[go_sem,Nat.reduceBEq,reduceAdd])
   refine zj00 (vs:=[.slice bA (bgL l).length bC,.int .i64 ((p+1:Nat):Int)]) rfl (fun W hW=>find47 hW (i:=0) rfl hbn hb0 hbs ((p+1:Nat):Int)) fun v hv=>⟨.val (.int .i64 (posI (bgL l) ((p+1:Nat):Int):Int)),by rw[hv]; simp[Is],?_⟩
   (refine zj1f (by dsimp only[go_sem,Nat.reduceBEq,reduceAdd]; exact⟨rfl,zj06 rfl⟩) ?_; refine zj0c hQ' 100 ?_; dsimp only[go_sem,Nat.reduceMul,Nat.reduceBEq,reduceAdd])
   intro g5
   refine⟨⟨by simp only[maxLen]; omega,by omega⟩,fun A5 c5=>?_⟩
   refine zj0s fun a W rep=>hnorm _ rfl (zj05 (by simp[extB,SO.blk,bump])) ?_ _ a W rep
   (refine Y_go 600 ?_; dsimp only[go_sem,Nat.reduceBEq])
   exact zj0u (vs:=[]) r124 rfl rfl fun W hW=>fin1 A5 c5 _ [.cells g5 3 [.val (.int .i64 (posI (bgL l) ((p+1:Nat):Int):Int))]] W hgo hW
  ·have hge2:¬ p+1 < l.length:=by have:=of_decide_eq_false hge2; omega
   rw[decide_eq_false hge2,Bool.and_false] at hgo
   simpa using hgo
  ·have h13:(!(x.op == 13))=false:=h13
   rw[h13,Bool.false_and] at hgo
   simpa using hgo
 have sec1:∀ (A':Option Addr) (c':Nat) (zs1:List Int),zs1.length≤100001→zs1++(if !(x.op == 13) && decide (p+1 < l.length) then [(posI (bgL l) ((p:Int)+1):Int)] else [])=(goesL l.length p x).map (fun t=>(posI (bgL l) t:Int)) →
   G (cxOf Tryz.prog Tryz.f124 K124 T124 R') ⟨b,N,st,53,[]⟩ [.code (.ref 1)] { F:=[(0,.val (.func (.yield lno) #[] #[])),(1,.ptr 4 0),(2,.ptr 5 0),(4,.ptr 9 0)],H:=[.own 3 0 1 bA (bgL l).length bC (isV (bgL l)),.cells g3 77 [.own 0 0],.own 123 0 3 oA ps.length oC (cellsR ps),.cells g7 123 [.val (.int .i64 fr),.val (.int .i64 to),.own 6 1],.cells g1 22 [.val (.slice B l.length bc)],.cells g2 3 [.val (.int .i64 (p:Int))],.own 3 1 1 A' zs1.length c' (isV zs1),.obj D (.deferred (some [])),.obj lno (.loop rec),.cells g 47 (In.sv x)] }:=by
  intro A' c' zs1 hz1 hgo
  (refine Y_go 600 ?_; dsimp only[go_sem,In.sv,Nat.reduceBEq,reduceAdd])
  refine⟨fun h13=>⟨((p+1:Nat):Int),ArOk.to (by omega) (by omega) (by omega),fun hlt2=>⟨((p+1:Nat):Int),ArOk.to (by omega) (by omega) (by omega),?_⟩,fun hge2=>zj0u (vs:=[]) r124 rfl rfl fun W hW=>fin1 A' c' zs1 [] W ?_ hW⟩,fun h13=>zj0u (vs:=[]) r124 rfl rfl fun W hW=>fin1 A' c' zs1 [] W ?_ hW⟩
  ·have h13:(!(x.op == 13))=true:=h13
   have hlt2:p+1 < l.length:=by have:=of_decide_eq_true hlt2; omega
   have hgo:zs1++[(posI (bgL l) ((p+1:Nat):Int):Int)]=(goesL l.length p x).map (fun t=>(posI (bgL l) t:Int)):=by rw[← hgo,h13,decide_eq_true hlt2]; rfl
   refine zj0x (C':=cxOf Tryz.prog Tryz.f124 K124 T124 R') (E:=⟨b,N,st,60,mk⟩) (i:=8) (rec:=rec) (lno:=lno) (keep:=K88) ?_ ?_ ?_ hrec ?_ ?_ ?_ ?_ ?_ ?_
   ·rfl
   ·rfl
   ·rfl
   ·simp
   ·rfl
   ·rfl
   ·rfl
   ·exact zj05 (by simp[extB,SO.blk,bump])
   intro J Q' hQ' hbeg hnorm hjmp
   have hF:zj0e (fun _ _ _=>False):=fun _ _ _ h=>h
   (refine zj0c hF 100 ?_; dsimp only[go_sem,Nat.reduceBEq,setPs])
   refine zj02 fun a W rep=>hbeg _ _ rfl ?_ a W rep
   (refine zj0c hQ' 100 ?_; dsimp only[go_sem,Nat.reduceBEq,reduceAdd])
   refine zj00 (vs:=[.slice bA (bgL l).length bC,.int .i64 ((p+1:Nat):Int)]) rfl (fun W hW=>find47 hW (i:=0) rfl hbn hb0 hbs ((p+1:Nat):Int)) fun v hv=>⟨.val (.int .i64 (posI (bgL l) ((p+1:Nat):Int):Int)),by rw[hv]; simp[Is],?_⟩
   (refine zj1f (by dsimp only[go_sem,Nat.reduceBEq,reduceAdd]; exact⟨rfl,zj06 rfl⟩) ?_; refine zj0c hQ' 100 ?_; dsimp only[go_sem,Nat.reduceMul,Nat.reduceBEq,reduceAdd])
   intro g5
   refine⟨⟨by simp only[maxLen]; omega,by omega⟩,fun A5 c5=>?_⟩
   have ez:isV zs1++[Value.int .i64 (posI (bgL l) ((p+1:Nat):Int):Int)]=isV (zs1++[(posI (bgL l) ((p+1:Nat):Int):Int)]):=by simp[isV]
   have el:zs1.length+1=(zs1++[(posI (bgL l) ((p+1:Nat):Int):Int)]).length:=by simp
   rw[ez,el]
   refine zj0s fun a W rep=>hnorm _ rfl (zj05 (by simp[extB,SO.blk,bump])) ?_ _ a W rep
   (refine Y_go 600 ?_; dsimp only[go_sem,Nat.reduceBEq])
   exact zj0u (vs:=[]) r124 rfl rfl fun W hW=>fin2 A5 c5 _ [.cells g5 3 [.val (.int .i64 (posI (bgL l) ((p+1:Nat):Int):Int))]] W hgo hW
  ·have hge2:¬ p+1 < l.length:=by have:=of_decide_eq_false hge2; omega
   rw[decide_eq_false hge2,Bool.and_false] at hgo
   simpa using hgo
  ·have h13:(!(x.op == 13))=false:=h13
   rw[h13,Bool.false_and] at hgo
   simpa using hgo
 cases hb:legalB x with
 | false =>
  refine zj00 (vs:=[In.val x]) rfl (fun W hW=>zj19 x W (hG.at (HeapOk.env (E:=⟨b,N,st,53,[]⟩) (E':=⟨b,N,st,60,mk⟩) rfl rfl rfl hW))) fun v hv=>⟨.bf,by rw[hv,hb]; simp[Is],?_⟩
  (refine Y_go 600 ?_; dsimp only[go_sem,Nat.reduceBEq])
  exact zj01 (vs:=[]) r124 rfl rfl fun W hW=>fin0 none 0 [] [] W (by unfold goesL; rw[hb]; simp) ⟨rfl,rfl,rfl⟩ hW
 | true =>
  refine zj00 (vs:=[In.val x]) rfl (fun W hW=>zj19 x W (hG.at (HeapOk.env (E:=⟨b,N,st,53,[]⟩) (E':=⟨b,N,st,60,mk⟩) rfl rfl rfl hW))) fun v hv=>⟨.bt,by rw[hv,hb]; simp[Is],?_⟩
  (refine Y_go 600 ?_; dsimp only[go_sem,Nat.reduceBEq,reduceAdd])
  refine⟨fun h1=>zj01 (vs:=[]) r124 rfl rfl fun W hW=>fin0 none 0 [] [] W (by unfold goesL; rw[hb,h1]; simp) ⟨rfl,rfl,rfl⟩ hW,fun h1=>?_⟩
  have hgo:(goesL l.length p x).map (fun t=>(posI (bgL l) t:Int))=(if brB x.op && (decide (0≤x.imm) && decide (x.imm < l.length)) then [(posI (bgL l) x.imm:Int)] else [])++(if !(x.op == 13) && decide (p+1 < l.length) then [(posI (bgL l) ((p:Int)+1):Int)] else []):=by
   unfold goesL; rw[hb,h1]
   rw[if_neg (by simp),List.map_append]
   congr 1 <;> split <;> rfl
  cases hbr:brB x.op with
  | false =>
   refine zj00 (vs:=[.int .i64 x.op]) rfl (fun W hW=>zj48 x.op W) fun v hv=>⟨.bf,by rw[hv,hbr]; simp[Is],?_⟩
   (refine Y_go 22 ?_; dsimp only[go_sem,Nat.reduceBEq,Y_0])
   exact fun a W rep=>sec0 (by rw[hgo,hbr]; simp) a W (rep.le (by (simp only[go_sem,lk,Nat.reduceBEq,reduceLT,reduceAdd] <;> try simp)) (by (simp only[go_sem,lk,Nat.reduceBEq,reduceLT,reduceAdd] <;> try simp); exact⟨rfl,rfl⟩))
  | true =>
   refine zj00 (vs:=[.int .i64 x.op]) rfl (fun W hW=>zj48 x.op W) fun v hv=>⟨.bt,by rw[hv,hbr]; simp[Is],?_⟩
   (refine Y_go 18 ?_; dsimp only[go_sem,Nat.reduceBEq,reduceAdd,Y_0])
   refine⟨fun h0=>⟨fun h2=>?_,fun h2=>?_⟩,fun h0=>?_⟩
   ·have h0:decide (0≤x.imm)=true:=h0
    refine zj0x (C':=cxOf Tryz.prog Tryz.f124 K124 T124 R') (E:=⟨b,N,st,60,mk⟩) (i:=8) (rec:=rec) (lno:=lno) (keep:=K88) ?_ ?_ ?_ hrec ?_ ?_ ?_ ?_ ?_ ?_
    ·rfl
    ·rfl
    ·rfl
    ·simp
    ·rfl
    ·rfl
    ·rfl
    ·exact zj05 (by simp[extB,SO.blk,bump])
    intro J Q' hQ' hbeg hnorm hjmp
    have hF:zj0e (fun _ _ _=>False):=fun _ _ _ h=>h
    (refine zj0c hF 100 ?_; dsimp only[go_sem,Nat.reduceBEq,setPs])
    refine zj02 fun a W rep=>hbeg _ _ rfl ?_ a W rep
    (refine zj0c hQ' 100 ?_; dsimp only[go_sem,Nat.reduceBEq,reduceAdd])
    refine zj00 (vs:=[.slice bA (bgL l).length bC,.int .i64 x.imm]) rfl (fun W hW=>find47 hW (i:=0) rfl hbn hb0 hbs x.imm) fun v hv=>⟨.val (.int .i64 (posI (bgL l) x.imm:Int)),by rw[hv]; simp[Is],?_⟩
    (refine zj1f (by dsimp only[go_sem,Nat.reduceBEq,reduceAdd]; exact⟨rfl,zj06 rfl⟩) ?_; refine zj0c hQ' 100 ?_; dsimp only[go_sem,Nat.reduceMul,Nat.reduceBEq,reduceAdd])
    intro g5
    refine⟨⟨by simp only[maxLen]; omega,by omega⟩,fun A5 c5=>?_⟩
    refine zj0s fun a W rep=>hnorm _ rfl (zj05 (by simp[extB,SO.blk,bump])) ?_ _ a W rep
    (refine Y_go 5 ?_; dsimp only[go_sem,Nat.reduceBEq,Y_0])
    exact fun a W rep=>sec1 A5 c5 [(posI (bgL l) x.imm:Int)] (by simp) (by rw[hgo,hbr,h0,h2]; simp) a W (rep.le (by (simp only[go_sem,lk,Nat.reduceBEq,reduceLT,reduceAdd] <;> try simp)) (by (simp only[go_sem,lk,Nat.reduceBEq,reduceLT,reduceAdd] <;> try simp); exact⟨rfl,rfl,rfl⟩))
   ·(refine Y_go 4 ?_; dsimp only[go_sem,Nat.reduceBEq,Y_0])
    exact fun a W rep=>sec0 (by rw[hgo,hbr,h2]; simp) a W (rep.le (by (simp only[go_sem,lk,Nat.reduceBEq,reduceLT,reduceAdd] <;> try simp)) (by (simp only[go_sem,lk,Nat.reduceBEq,reduceLT,reduceAdd] <;> try simp); exact⟨rfl,rfl⟩))
   ·have h0:decide (0≤x.imm)=false:=h0
    (refine Y_go 4 ?_; dsimp only[go_sem,Nat.reduceBEq,Y_0])
    exact fun a W rep=>sec0 (by rw[hgo,hbr,h0]; simp) a W (rep.le (by (simp only[go_sem,lk,Nat.reduceBEq,reduceLT,reduceAdd] <;> try simp)) (by (simp only[go_sem,lk,Nat.reduceBEq,reduceLT,reduceAdd] <;> try simp); exact⟨rfl,rfl⟩))
theorem parts33 (l:List In) (B:Option Addr) (bc:Nat) (w:World) (hl:l.length≤1024) (hB:RowAt w B (cellsI l)) (hG:ShAt w) :
  CallsV Tryz.prog 88 [.slice B l.length bc] w fun v w'=>∃ (A:Option Addr) (c:Nat) (ps:List PR),v=.slice A ps.length c∧ps.map PR.pa=partsL l∧World.ownsB w' w.heap.size 123 3 (.slice A ps.length c) ps.length (cellsR ps)∧NxAt w' ps∧NxNew w.heap.size ps∧Fresh w w':=by
 refine zj3j (keep:=K88) (nt:=60) (svs:=[.val (.slice B l.length bc)]) Tryz.func88 x88 n88 (by simp) (by simp[IsL,Is]) fun R hR=>?_
 (refine Y_goM 600 ?_; dsimp only[go_sem,reduceAdd,Nat.reduceBEq])
 refine zj1d (t:=3) (sz:=1) (n:=(bgL l).length) (xs:=isV (bgL l)) rfl (fun W hW=>(begins48 l B bc W hl (hB.keep hW.fresh') (hG.keep hW.fresh')).mono ?_) fun bA bC=>?_
 ·rintro v W' ⟨A,c,zs,rfl,h1,h2,h3,h4⟩
  have e:zs=bgL l:=by
   unfold bgL
   split
   ·rename_i h; exact h1 h
   ·rename_i h; exact h2 h
  subst e; exact⟨h3,h4⟩
 simp only[putF,List.nil_append,List.length_nil]
 (refine Y_goM 600 ?_; dsimp only[go_sem,reduceAdd,Nat.reduceBEq])
 intro g3
 have hbn:=bgL_len l
 refine zj08 (α:=List PR × Option Addr × Nat × World × Nat × List Nat × List Nat) (fun q=>q.1.length≤(bgL l).length∧q.1.map PR.pa=(partsL l).take q.1.length∧Over ⟨w,w.heap.size,[],60,[]⟩ ⟨q.2.2.2.1,q.2.2.2.2.1,q.2.2.2.2.2.1,60,q.2.2.2.2.2.2⟩∧MarksOk ⟨w,w.heap.size,[],60,[]⟩ ⟨q.2.2.2.1,q.2.2.2.2.1,q.2.2.2.2.2.1,60,q.2.2.2.2.2.2⟩∧NxE ⟨q.2.2.2.1,q.2.2.2.2.1,q.2.2.2.2.2.1,60,q.2.2.2.2.2.2⟩ q.1∧NxNew w.heap.size q.1)
  (fun q=>⟨q.2.2.2.1,q.2.2.2.2.1,q.2.2.2.2.2.1,60,q.2.2.2.2.2.2⟩)
  (fun q=>{ F:=[(0,.val (.slice B l.length bc)),(3,.ptr 1 0),(4,.own 2 0),(11,.own 0 0),(12,.val (.int .i64 ((bgL l).length:Int))),(13,.val (.int .i64 (q.1.length:Int)))],H:=[.own 3 0 1 bA (bgL l).length bC (isV (bgL l)),.cells g3 77 [.own 0 0],.own 123 0 3 q.2.1 q.1.length q.2.2.1 (cellsR q.1)] })
  (fun q=>(bgL l).length - q.1.length) (fun _=>rfl) ?start ?round
 case start =>
  intro a W rep
  have rep1:=(rep.le (s':={ F:=[(0,.val (.slice B l.length bc)),(3,.ptr 1 0),(4,.val (.slice none 0 0)),(11,.own 0 0),(12,.val (.int .i64 ((bgL l).length:Int))),(13,.val (.int .i64 0))],H:=[.own 3 0 1 bA (bgL l).length bC (isV (bgL l)),.cells g3 77 [.own 0 0]] }) (by (simp only[go_sem,lk,Nat.reduceBEq,reduceLT,reduceAdd] <;> try simp)) (by (simp only[go_sem,lk,Nat.reduceBEq,reduceLT,reduceAdd] <;> try simp))).adopt 4 123 3 rfl
  refine⟨([],none,0,w,w.heap.size,[],[]),⟨Nat.zero_le _,rfl,Over.refl _,MarksOk.nil _ _ rfl,fun p hp=>by simp at hp,NxNew.nil _⟩,rep1.le (by (simp only[go_sem,lk,Nat.reduceBEq,reduceLT,reduceAdd] <;> try simp)) (by (simp only[go_sem,lk,Nat.reduceBEq,reduceLT,reduceAdd] <;> try simp); rfl)⟩
 case round =>
  rintro ⟨ps,oA,oC,b,N,st,mk⟩ ⟨hk,hpa,hov,hmk,hnx,hnw⟩ I again
  simp only at hk hpa hov hmk hnx hnw ⊢
  have hBE:RowE ⟨b,N,st,60,mk⟩ B (cellsI l):=(hB.toE (by simp) 60 []).over hov
  have hGE:RowE ⟨b,N,st,60,mk⟩ (some ⟨0,0,none⟩) shL:=(RowAt.toE hG (by simp) 60 []).over hov
  (refine Y_goM 600 ?_; dsimp only[go_sem,Nat.reduceBEq,reduceAdd])
  refine⟨fun hlt=>?_,fun hge=>?_⟩
  ·have hlt:ps.length < (bgL l).length:=by have:=of_decide_eq_true hlt; omega
   have hx:(bgL l)[ps.length]? = some (bgL l)[ps.length]:=List.getElem?_eq_getElem hlt
   generalize (bgL l)[ps.length]=fr at hx
   refine⟨⟨by omega,by omega⟩,fr,zj69 _ _ _ (by rw[show ((ps.length:Nat):Int).toNat*1=ps.length by omega]; exact hx),fun g7=>?_⟩
   have raw:∀ (to:Int),to=toL l.length (bgL l) ps.length→G (cxM Tryz.prog Tryz.f88 K88 T88 R) ⟨b,N,st,60,mk⟩ [.ops [⟨some 37,none,.call 104 [.tmp 33,.tmp 36]⟩],.code (.ref 2),.code (.ref 5),.blk 1,.code (.ops [⟨some 58,none,.k (.arith .add .i64 (.tmp 13) (.const (.int .i64 1)))⟩,⟨some 13,none,.k (.mov (.tmp 58))⟩]),.lend I,.blk 0,.code (.ref 12)]
     { F:=[(36,.val (.int .i64 (to - 1))),(33,.val (.slice B l.length bc)),(0,.val (.slice B l.length bc)),(3,.ptr 1 0),(4,.own 2 0),(7,.ptr 3 0),(11,.own 0 0),(12,.val (.int .i64 ((bgL l).length:Int))),(13,.val (.int .i64 (ps.length:Int)))],H:=[.own 3 0 1 bA (bgL l).length bC (isV (bgL l)),.cells g3 77 [.own 0 0],.own 123 0 3 oA ps.length oC (cellsR ps),.cells g7 123 [.val (.int .i64 fr),.val (.int .i64 to),.val (.slice none 0 0)]] }:=by
    intro to hto
    have htr:=toL_range hx
    rw[← hto] at htr
    have hfr:=zj2x (List.mem_of_getElem? hx)
    obtain⟨p,hp⟩:∃ p:Nat,(p:Int)=to - 1:=⟨(to - 1).toNat,by omega⟩
    have hpl:p < l.length:=by omega
    have hy:l[p]? = some l[p]:=List.getElem?_eq_getElem hpl
    generalize l[p]=y at hy
    rw[← hp]
    refine zj0b (vs:=[.slice B l.length bc,.int .i64 (p:Int)]) rfl (R:=fun W v W'=>∃ g1 g2,v=.func (.func 124) #[] #[.pointer (some ⟨g1,0,none⟩),.pointer (some ⟨g2,0,none⟩)] ∧
     (W.heap.size≤g1∧g1 < W'.heap.size)∧(W.heap.size≤g2∧g2 < W'.heap.size)∧g1 ≠ g2∧W'.heap[g1]? = some (.cells #[.slice B l.length bc] 22 (0,0))∧W'.heap[g2]? = some (.cells #[.int .i64 (p:Int)] 3 (0,0))∧Fresh W W') (fun W hW=>goes67 B l.length bc p W) fun W v W' hW ⟨g1,g2,hv,hg1,hg2,hne,hc1,hc2,hf⟩=>?_
    refine⟨.fn (.func 124) [] [.ptr 4 0,.ptr 5 0],[.own 3 0 1 bA (bgL l).length bC (isV (bgL l)),.cells g3 77 [.own 0 0],.own 123 0 3 oA ps.length oC (cellsR ps),.cells g7 123 [.val (.int .i64 fr),.val (.int .i64 to),.val (.slice none 0 0)],.cells g1 22 [.val (.slice B l.length bc)],.cells g2 3 [.val (.int .i64 (p:Int))]],?_,?_,?_,?_⟩
    ·rw[hv]; simp[Is,IsL,blk,nth]
    ·exact zj05 (by simp[extB])
    ·have k1:=hW.pushG (row:=none) (e:=.cells g1 22 [.val (.slice B l.length bc)]) hf.size hf.os hf.tape hf.output (fun j hj _=>hf.block j hj) (fun _ e=>by cases e) (fun g' hg'=>by
      simp[SO.fp] at hg'; subst hg'
      exact⟨.inr hg1.1,hg1.2⟩) ⟨_,hc1,by simp[IsL,Is]⟩
     exact k1.cellF hc2 (fun ho=>by
      have h1:N≤W.heap.size:=hW.floor
      have h2:g2 < N:=ho.1
      omega) (fun hm=>by
      rw[zj64,List.mem_append] at hm
      rcases hm with hm | hm
      ·have:=hW.fps_lt hm; omega
      ·simp at hm; exact hne hm.symm) (by simp[IsL,Is])
    clear hc1 hc2 hf hv hW
    simp only[putF]
    (refine Y_goM 6 ?_; dsimp only[go_sem,Nat.reduceBEq])
    have hcl:∀ vs,IsL [.own 3 0 1 bA (bgL l).length bC (isV (bgL l)),.cells g3 77 [.own 0 0],.own 123 0 3 oA ps.length oC (cellsR ps),.cells g7 123 [.val (.int .i64 fr),.val (.int .i64 to),.val (.slice none 0 0)],.cells g1 22 [.val (.slice B l.length bc)],.cells g2 3 [.val (.int .i64 (p:Int))],.own 3 0 1 none 0 0 []] [.val (.int .i64 fr),.val (.int .i64 to),.val (.slice none 0 0)] vs→IsL [.own 3 0 1 bA (bgL l).length bC (isV (bgL l)),.cells g3 77 [.own 0 0],.own 123 0 3 oA ps.length oC (cellsR ps),.cells g7 123 [.val (.int .i64 fr),.val (.int .i64 to),.val (.slice none 0 0)],.cells g1 22 [.val (.slice B l.length bc)],.cells g2 3 [.val (.int .i64 (p:Int))],.own 3 0 1 none 0 0 []] [.val (.int .i64 fr),.val (.int .i64 to),.own 6 0] vs:=by
     intro vs h
     simp only[IsL] at h ⊢
     obtain⟨v1,r1,h1,⟨v2,r2,h2,⟨v3,r3,h3,h4,e3⟩,e2⟩,e1⟩:=h
     exact⟨v1,r1,h1,⟨v2,r2,h2,⟨v3,r3,isl_nil rfl h3,h4,e3⟩,e2⟩,e1⟩
    refine G.le (E':=⟨b,N,st,60,mk⟩) rfl (s':={ F:=[(37,.fn (.func 124) [] [.ptr 4 0,.ptr 5 0]),(0,.val (.slice B l.length bc)),(3,.ptr 1 0),(4,.own 2 0),(7,.ptr 3 0),(11,.own 0 0),(12,.val (.int .i64 ((bgL l).length:Int))),(13,.val (.int .i64 (ps.length:Int)))],H:=[.own 3 0 1 bA (bgL l).length bC (isV (bgL l)),.cells g3 77 [.own 0 0],.own 123 0 3 oA ps.length oC (cellsR ps),.cells g7 123 [.val (.int .i64 fr),.val (.int .i64 to),.own 6 0],.cells g1 22 [.val (.slice B l.length bc)],.cells g2 3 [.val (.int .i64 (p:Int))],.own 3 0 1 none 0 0 []] }) (fun a W rep=>((rep.nilH 3 1).cellsTo 3 rfl hcl).lq) ?_
    refine rng33 hy hl hBE hGE ?_
    intro D A' c' zs hzs
    have hzl:zs.length≤2:=by rw[hzs,List.length_map]; exact goesL_len _ _ _
    have hlen:(srtI zs).length=zs.length:=srtI_len zs
    (refine Y_goM 600 ?_; dsimp only[go_sem,Nat.reduceBEq,reduceAdd])
    refine zj0b (vs:=[.slice A' zs.length c']) rfl (R:=fun W v W'=>v=.tuple #[]∧HeapOk ⟨b,N,st,60,D :: mk⟩ [.own 3 0 1 bA (bgL l).length bC (isV (bgL l)),.cells g3 77 [.own 0 0],.own 123 0 3 oA ps.length oC (cellsR ps),.cells g7 123 [.val (.int .i64 fr),.val (.int .i64 to),.own 6 0],.cells g1 22 [.val (.slice B l.length bc)],.cells g2 3 [.val (.int .i64 (p:Int))],.own 3 0 1 A' zs.length c' (isV (srtI zs)),.obj D (.deferred (some []))] W') (fun W hW=>sort68 hW (i:=6) rfl (by omega)) fun W v W' hW ⟨hv,hW'⟩=>⟨.tup [],_,by rw[hv]; simp[Is,IsL],HExt.setOwn (i:=6) rfl (Nat.le_refl _) fun _=>⟨rfl,rfl,rfl⟩,hW',?_⟩
    refine G.le (E':=⟨b,N,st,60,D :: mk⟩) rfl (s':={ F:=[(37,.fn (.func 124) [] [.ptr 4 0,.ptr 5 0]),(0,.val (.slice B l.length bc)),(3,.ptr 1 0),(4,.own 2 0),(7,.ptr 3 0),(11,.own 0 0),(12,.val (.int .i64 ((bgL l).length:Int))),(13,.val (.int .i64 (ps.length:Int)))],H:=[.own 3 0 1 bA (bgL l).length bC (isV (bgL l)),.cells g3 77 [.own 0 0],.own 123 0 3 oA ps.length oC (cellsR ps),.cells g7 123 [.val (.int .i64 fr),.val (.int .i64 to),.own 6 0],.cells g1 22 [.val (.slice B l.length bc)],.cells g2 3 [.val (.int .i64 (p:Int))],.own 3 0 1 A' (srtI zs).length c' (isV (srtI zs)),.obj D (.deferred (some []))] }) (fun a W rep=>rep.le (by simp only[putF,setn]; (simp only[go_sem,lk,Nat.reduceBEq,reduceLT,reduceAdd] <;> try simp)) (by simp only[setn]; (simp only[go_sem,lk,Nat.reduceBEq,reduceLT,reduceAdd] <;> try simp); exact hlen.symm)) ?_
    (refine Y_goM 600 ?_; dsimp only[go_sem,Nat.reduceBEq,reduceAdd])
    refine zj0b (vs:=[.slice A' (srtI zs).length c']) rfl (R:=fun W v W'=>v=.slice A' (dpI (srtI zs)).length c'∧HeapOk ⟨b,N,st,60,D :: mk⟩ [.own 3 0 1 bA (bgL l).length bC (isV (bgL l)),.cells g3 77 [.own 0 0],.own 123 0 3 oA ps.length oC (cellsR ps),.cells g7 123 [.val (.int .i64 fr),.val (.int .i64 to),.own 6 0],.cells g1 22 [.val (.slice B l.length bc)],.cells g2 3 [.val (.int .i64 (p:Int))],.own 3 1 1 A' (dpI (srtI zs)).length c' (isV (dpI (srtI zs))),.obj D (.deferred (some []))] W') (fun W hW=>(compact69 hW (i:=6) rfl (by omega)).mono fun v W' h=>⟨h.1,h.2.2⟩) fun W v W' hW ⟨hv,hW'⟩=>⟨.own 6 1,_,?_,HExt.setOwn (i:=6) rfl (show 0≤1 from Nat.le_succ 0) fun e=>absurd e (by omega),hW',?_⟩
    ·rw[hv]; simp only[Is]; exact⟨_,_,_,_,_,_,_,rfl,Nat.le_refl _,⟨_,_,_,rfl⟩,fun _=>rfl⟩
    simp only[setn]
    (refine Y_goM 600 ?_; dsimp only[go_sem,Nat.reduceBEq,reduceAdd,Nat.reduceMul])
    intro g8
    refine⟨⟨by simp only[maxLen]; omega,by omega⟩,fun A5 c5=>?_⟩
    refine⟨((ps.length+1:Nat):Int),ArOk.to (by omega) (by omega) (by omega),zj02 fun a W rep=>?_⟩
    have hpr:∃ pr:PR,pr.pa=partL l (bgL l) ps.length∧pr.cells=[.int .i64 fr,.int .i64 to,.slice A' (dpI (srtI zs)).length c']∧pr.A=A'∧pr.pa.nx=dpI (srtI zs):=by
     refine⟨⟨⟨fr,to,dpI (srtI zs)⟩,A',c'⟩,?_,rfl,rfl,rfl⟩
     have e1:(bgL l).getD ps.length 0=fr:=by rw[List.getD_eq_getElem?_getD,hx]; rfl
     have e2:(to - 1).toNat=p:=by omega
     unfold partL nxL goesA upI
     rw[← hto,e1,e2,hy,← hzs]
    obtain⟨pr,h1,h2,h3,h4⟩:=hpr
    have rep2:Rep ⟨b,N,st,60,D :: mk⟩ { F:=[(0,.val (.slice B l.length bc)),(3,.ptr 1 0),(4,.own 2 0),(11,.own 0 0),(12,.val (.int .i64 ((bgL l).length:Int))),(13,.val (.int .i64 ((ps++[pr]).length:Int)))],H:=[.own 3 0 1 bA (bgL l).length bC (isV (bgL l)),.cells g3 77 [.own 0 0],.own 123 0 3 A5 (ps++[pr]).length c5 (cellsR (ps++[pr]))]++[.own 3 0 1 A' (dpI (srtI zs)).length c' (isV (dpI (srtI zs))),.obj D (.deferred (some []))] } a W:=by
     have hl2:(ps++[pr]).length=ps.length+1:=by simp
     have hc2:cellsR (ps++[pr])=cellsR ps++[.int .i64 fr,.int .i64 to,.slice A' (dpI (srtI zs)).length c']:=by rw[cellsR_snoc,h2]
     rw[hl2,hc2]
     exact (rep.res.pick [0,1,2,6,7] (by decide)).lp
    obtain⟨rep3,ov⟩:=rep2.cut (H1:=[.own 3 0 1 bA (bgL l).length bC (isV (bgL l)),.cells g3 77 [.own 0 0],.own 123 0 3 A5 (ps++[pr]).length c5 (cellsR (ps++[pr]))]) rfl (rep2.le (s':={ F:=[(0,.val (.slice B l.length bc)),(3,.ptr 1 0),(4,.own 2 0),(11,.own 0 0),(12,.val (.int .i64 ((bgL l).length:Int))),(13,.val (.int .i64 ((ps++[pr]).length:Int)))],H:=[.own 3 0 1 bA (bgL l).length bC (isV (bgL l)),.cells g3 77 [.own 0 0],.own 123 0 3 A5 (ps++[pr]).length c5 (cellsR (ps++[pr]))] }) (by (simp only[go_sem,lk,Nat.reduceBEq,reduceLT,reduceAdd] <;> try simp)) (by (simp only[go_sem,lk,Nat.reduceBEq,reduceLT,reduceAdd] <;> try simp))).frame
    ·have hrow:=rep2.heap.rowOff (i:=0) rfl 60 (D :: mk)
     obtain⟨hD1,hD2,hD3⟩:=rep2.heap.objOff (i:=1) rfl 60 (D :: mk)
     have ov':=ov
     replace ov:=(Over.env (E:=⟨b,N,st,60,mk⟩) (A:=⟨b,N,st,60,mk⟩) (B:=⟨b,N,st,60,D :: mk⟩) rfl rfl rfl (Over.refl _)).trans ov
     refine again (ps++[pr],A5,c5,W,W.heap.size,_,D :: mk) ⟨by simp; omega,?_,hov.trans ov,hmk.more ov rfl hD1 hD2 hD3 hov,?_,hnw.snoc fun a ha=>?_⟩ (by simp; omega) a W rep3
     ·simp only[List.map_append,List.map_cons,List.map_nil,List.length_append,List.length_cons,List.length_nil]
      rw[List.take_add_one,zj6b hlt,hpa,h1]; rfl
     ·refine (hnx.over ov).snoc ?_
      rw[h3,h4]; exact hrow
     ·rw[h3] at ha
      have h5:=(rep2.heap.off (i:=0) (g:=a.block) rfl (by rw[ha]; rfl)).2.2
      refine Classical.byContradiction fun hlt=>h5 ?_
      exact hov.sub _ ⟨by show a.block < w.heap.size; omega,by simp⟩
   refine⟨((ps.length+1:Nat):Int),ArOk.to (by omega) (by omega) (by omega),fun hlt2=>⟨((ps.length+1:Nat):Int),ArOk.to (by omega) (by omega) (by omega),⟨by omega,of_decide_eq_true hlt2⟩,?_⟩,fun hge2=>?_⟩
   ·have hlt2:ps.length+1 < (bgL l).length:=by have:=of_decide_eq_true hlt2; omega
    have hy:(bgL l)[ps.length+1]? = some (bgL l)[ps.length+1]:=List.getElem?_eq_getElem hlt2
    generalize (bgL l)[ps.length+1]=to at hy
    have hr:=zj2x (List.mem_of_getElem? hy)
    refine⟨to,zj69 _ _ _ (by rw[show ((ps.length+1:Nat):Int).toNat*1=ps.length+1 by omega]; exact hy),?_⟩
    exact⟨to - 1,ArOk.toSub (by omega) (by omega) (by omega),fun a W rep=>raw to (by unfold toL; rw[hy]; rfl) a W (rep.lq)⟩
   ·have hge2:¬ ps.length+1 < (bgL l).length:=by have:=of_decide_eq_false hge2; omega
    exact⟨(l.length:Int) - 1,ArOk.toSub (by omega) (by omega) (by omega),fun a W rep=>raw l.length (by unfold toL; rw[List.getElem?_eq_none (by omega)]; rfl) a W (rep.lq)⟩
  ·have hk:ps.length=(bgL l).length:=by have:=of_decide_eq_false hge; omega
   refine ret_marks (vs:=[.slice oA ps.length oC]) r88 rfl hmk.nodup hmk.here fun W W' hW hkp _=>hR _ _ ⟨oA,oC,ps,rfl,?_,?_,hnx.atM hmk hW hkp,hnw,?_⟩
   ·rw[hpa,List.take_of_length_le (by rw[zj6a]; omega)]
   ·exact (hmk.heap hov hW hkp).owns (i:=2) rfl
   ·exact (hmk.heap hov hW hkp).fresh'
def PartsR (l:List In) (w:World) (v:Value) (w':World):Prop:=∃ (A:Option Addr) (c:Nat) (ps:List PR),v=.slice A ps.length c∧ps.map PR.pa=partsL l∧World.ownsB w' w.heap.size 123 3 (.slice A ps.length c) ps.length (cellsR ps)∧NxAt w' ps∧NxNew w.heap.size ps∧Fresh w w'
theorem zj6i {l:List In} {ps:List PR} (h:ps.map PR.pa=partsL l):ps.length=(bgL l).length:=by
 have:=congrArg List.length h
 rw[List.length_map,zj6a] at this; exact this
theorem parts17 (l:List In) (B:Option Addr) (bc:Nat) (w:World) (hl:l.length≤1024) (hB:RowAt w B (cellsI l)) (hG:ShAt w) :
  CallsV Tryz.prog 58 [.slice B l.length bc] w fun v w'=>∃ u,v=.tuple #[u,.int .i64 0]∧PartsR l w u w':=by
 refine zj03 (keep:=K58) (nt:=9) (svs:=[.val (.slice B l.length bc)]) Tryz.func58 x58 n58 (by simp) (by simp[IsL,Is]) fun R hR=>?_
 (refine Y_go 600 ?_; dsimp only[go_sem,Nat.reduceAdd,Nat.reduceBEq])
 refine⟨fun h=>absurd (of_decide_eq_true h) (by omega),fun _=>?_⟩
 refine zj1i (vs:=[.slice B l.length bc]) rfl (R:=fun W v W'=>PartsR l W v W') (fun W hW=>parts33 l B bc W hl (hB.keep hW.fresh') (hG.keep hW.fresh')) (fun _ _ _ h=>by obtain⟨_,_,_,_,_,_,_,_,h⟩:=h; exact h) fun W v W' hW ⟨A,c,ps,hv,h1,h2,h3,h5,h4⟩ ov=>?_
 subst hv
 have hw1:Fresh w W':=Fresh.tr hW.fresh' h4
 have hlow:=zj3k h2 hW.fresh'.size
 refine⟨.val (.slice A ps.length c),by simp[Is],?_⟩
 have hfp:fps ([]:List SO)=[]:=rfl
 rw[hfp]
 (refine Y_go 600 ?_; dsimp only[go_sem,Nat.reduceBEq])
 exact zj01 (vs:=[_,_]) r58 rfl rfl fun W2 hW2=>hR _ _ ⟨_,rfl,A,c,ps,rfl,h1,ownsB_keep hlow hW2.fresh',h3.keep hW2.fresh',h5.le hW.fresh'.size,Fresh.tr hw1 hW2.fresh'⟩
theorem parts17_big (n:Nat) (B:Option Addr) (bc:Nat) (w:World) (hl:1024 < n) :
  CallsV Tryz.prog 58 [.slice B n bc] w fun v w'=>v=.tuple #[.slice none 0 0,.int .i64 2]∧Fresh w w':=by
 refine zj03 (keep:=K58) (nt:=9) (svs:=[.val (.slice B n bc)]) Tryz.func58 x58 n58 (by simp) (by simp[IsL,Is]) fun R hR=>?_
 (refine Y_go 600 ?_; dsimp only[go_sem,Nat.reduceAdd,Nat.reduceBEq])
 exact⟨fun _=>zj01 (vs:=[_,_]) r58 rfl rfl fun W2 hW2=>hR _ _ ⟨rfl,hW2.fresh'⟩,fun h=>absurd (of_decide_eq_false h) (by omega)⟩
end Go.Proofs.YtgghmmjoplddbaaGreatDoor
