/- flow.goes: where an instruction goes, as a sequence. -/
import Derived.Test.YtgghmmjoplddbaaGreatDoorZFlCmp
set_option linter.unusedSimpArgs false
set_option linter.unusedVariables false
set_option linter.unnecessarySimpa false
namespace Go.Proofs.YtgghmmjoplddbaaGreatDoor
open Go Go.Sx Go.Isa
open Nat (reduceAdd reduceLT)
set_option maxRecDepth 100000
theorem goes67 (A:Option Addr) (n c:Nat) (at_:Int) (w:World):CallsV Tryz.prog 104 [.slice A n c,.int .i64 at_] w fun v w'=>∃ g1 g2,v=.func (.func 124) #[] #[.pointer (some ⟨g1,0,none⟩),.pointer (some ⟨g2,0,none⟩)] ∧
  (w.heap.size≤g1∧g1 < w'.heap.size)∧(w.heap.size≤g2∧g2 < w'.heap.size)∧g1 ≠ g2∧w'.heap[g1]? = some (.cells #[.slice A n c] 22 (0,0))∧w'.heap[g2]? = some (.cells #[.int .i64 at_] 3 (0,0))∧Fresh w w':=by
 refine zj03 (keep:=K104) (nt:=6) (svs:=[.val (.slice A n c),.val (.int .i64 at_)]) Tryz.func104 x104 n104 (by simp) (by simp[IsL,Is]) fun R hR=>?_
 (refine Y_go 600 ?_; dsimp only[go_sem,reduceAdd,Nat.reduceBEq])
 intro g1 g2
 refine zj01 (vs:=[.func (.func 124) #[] #[.pointer (some ⟨g1,0,none⟩),.pointer (some ⟨g2,0,none⟩)]]) r104 rfl rfl fun W hW=>hR _ _ ⟨g1,g2,rfl,?_,?_,?_,?_,?_,hW.fresh'⟩
 ·have:=hW.fresh 0 _ g1 rfl rfl
  simp only[Env.old,List.not_mem_nil,not_false_eq_true,and_true,Nat.not_lt] at this
  omega
 ·have:=hW.fresh 1 _ g2 rfl rfl
  simp only[Env.old,List.not_mem_nil,not_false_eq_true,and_true,Nat.not_lt] at this
  omega
 ·intro e
  exact hW.dist 0 1 _ _ _ (by omega) rfl rfl rfl (congrArg some e.symm)
 ·obtain⟨cc,hc,hL⟩:=hW.ents 0 _ rfl
  simp only[IsL,Is] at hL
  obtain⟨v,r,rfl,rfl,e⟩:=hL
  have:cc=#[.slice A n c]:=by rw[← Array.toList_inj]; simpa using e
  rw[this] at hc; exact hc
 ·obtain⟨cc,hc,hL⟩:=hW.ents 1 _ rfl
  simp only[IsL,Is] at hL
  obtain⟨v,r,rfl,rfl,e⟩:=hL
  have:cc=#[.int .i64 at_]:=by rw[← Array.toList_inj]; simpa using e
  rw[this] at hc; exact hc
theorem some_lt9 {α:Type} {l:List α} {k:Nat} {x:α} (h:l[k]? = some x):k < l.length:=by
 rcases Nat.lt_or_ge k l.length with h' | h'
 ·exact h'
 ·rw[List.getElem?_eq_none h'] at h; cases h
theorem post80 {E:Env} {v n c g1 g2:Nat} {A:Option Addr} {xs:List Value} {a b:Value} {r:List SO} {W:World} (h:HeapOk E ([.own 3 v 1 A n c xs,.cells g1 22 [.val a],.cells g2 3 [.val b]]++r) W):HeapOk E [.own 3 1 1 A n c xs,.cells g1 22 [.val a],.cells g2 3 [.val b]] W:=by
 have h1:=(h.pre (by simp[scpO,scp,scpL])).res
 have h2:HeapOk E [.own 3 0 1 A n c xs,.cells g1 22 [.val a],.cells g2 3 [.val b]] W:=h1
 exact h2.set (i:=0) (e':=.own 3 1 1 A n c xs) rfl (HExt.setOwn rfl (Nat.le_succ 0) fun e=>absurd e (by omega)) (fun g hg=>.inl hg) (fun _ _ _=>rfl) (Nat.le_refl _) rfl rfl rfl (h2.ents 0 _ rfl)
theorem append80 {E0:Env} {W:World} {l:List In} {i:Nat} {x:In} {B:Option Addr} {bc:Nat} {g1 g2:Nat} {A:Option Addr} {c:Nat} {zs:List Int} (hx:l[i]? = some x) (hl:l.length≤100000) (hz:zs.length≤100000) (hB:RowE E0 B (cellsI l)) (hG:RowE E0 (some ⟨0,0,none⟩) shL)
  (hW:HeapOk E0 [.own 3 0 1 A zs.length c (isV zs),.cells g1 22 [.val (.slice B l.length bc)],.cells g2 3 [.val (.int .i64 (i:Int))]] W) :
  CallsV Tryz.prog 123 [.slice A zs.length c,.func (.func 124) #[] #[.pointer (some ⟨g1,0,none⟩),.pointer (some ⟨g2,0,none⟩)]] W fun v W'=>∃ (A':Option Addr) (c':Nat),v=.slice A' (zs++goesL l.length i x).length c'∧HeapOk E0 [.own 3 1 1 A' (zs++goesL l.length i x).length c' (isV (zs++goesL l.length i x)),.cells g1 22 [.val (.slice B l.length bc)],.cells g2 3 [.val (.int .i64 (i:Int))]] W':=by
 obtain⟨b0,N,st,nt0,mk0⟩:=E0
 refine zj4m (keep:=K123) (nt:=13) (svs:=[.own 0 0,.fn (.func 124) [] [.ptr 1 0,.ptr 2 0]]) Tryz.func123 x123 n123 (by simp) hW ?_ fun R hR=>?_
 ·simp only[IsL,Is,blk,nth]
  exact⟨_,_,⟨_,_,_,_,_,_,_,rfl,Nat.le_refl _,⟨_,_,_,rfl⟩,fun _=>rfl⟩,⟨_,_,⟨[],_,rfl,⟨_,_,⟨_,rfl,rfl⟩,⟨_,_,⟨_,rfl,rfl⟩,rfl,rfl⟩,rfl⟩,rfl⟩,rfl,rfl⟩,rfl⟩
 have hlt:i < l.length:=some_lt9 hx
 have hi1:((i:Nat):Int).toNat=i:=by omega
 have hxl:l[i]=x:=(List.getElem?_eq_some_iff.1 hx).2
 have cl:∀ nt k v,k < 5→x.cells[k]? = some v→CellAt ⟨b0,N,st,nt,[]⟩ B (i*5+k) v:=fun nt k v hk hv=>by
  have h:=hB.cell (j:=i*5+k) (u:=v) (by rw[zj0y l hlt hk,hxl]; exact hv)
  exact h
 have sB:B.isSome=true:=hB.isSome (j:=i*5) (by rw[zj0o]; omega)
 (refine Y_goM 600 ?_; dsimp only[go_sem,reduceAdd,Nat.reduceBEq])
 intro g3
 refine zj34 rfl rfl (gf:=124) (caps:=[.pointer (some ⟨g1,0,none⟩),.pointer (some ⟨g2,0,none⟩)]) rfl rfl ?_
 intro D lno rec hrec R' hend hjump W1 hW1
 refine zj2k (keep:=K124) (nt:=53) (E:=⟨b0,N,st,13,[]⟩) (svs:=[.val (.func (.yield lno) #[] #[]),.ptr 1 0,.ptr 2 0]) Tryz.func124 x124 n124 (by simp) hW1 (by simp[IsL,Is,blk,nth]) ?_
 (refine Y_go 600 ?_; dsimp only[go_sem,reduceAdd,Nat.reduceBEq])
 rw[hi1]
 refine⟨⟨by omega,by omega,sB⟩,_,cl 53 0 _ (by omega) rfl,_,cl 53 1 _ (by omega) rfl,_,cl 53 2 _ (by omega) rfl,_,cl 53 3 _ (by omega) rfl,_,cl 53 4 _ (by omega) rfl,fun g=>?_⟩
 have fin0:∀ (A':Option Addr) (c':Nat) (zs':List Int) (r:List SO) W,zs'=zs++goesL l.length i x→(A=A'∧c=c'∧zs=zs')→HeapOk ⟨b0,N,st,53,[]⟩ ([.own 3 0 1 A' zs'.length c' (isV zs'),.cells g1 22 [.val (.slice B l.length bc)],.cells g2 3 [.val (.int .i64 (i:Int))],.cells g3 77 [.own 0 0],.obj D (.deferred (some [])),.obj lno (.loop rec),.cells g 47 (In.sv x)]++r) W→R' (tupOf []) W:=by
  rintro A' c' zs' r W hgo ⟨rfl,rfl,rfl⟩ hW
  refine hend _ _ W rfl (zj05 ?_) (HeapOk.env (E:=⟨b0,N,st,53,[]⟩) (E':=⟨b0,N,st,13,[]⟩) rfl rfl rfl hW) ?_
  ·simp[extB,SO.blk,bump]
  (refine Y_goM 600 ?_; dsimp only[go_sem,reduceAdd,Nat.reduceBEq])
  refine zj58 (vs:=[.slice A zs.length c]) 4 r123 rfl rfl rfl fun W hW=>hR _ _ ⟨A,c,?_,?_⟩
  ·rw[← hgo]; rfl
  ·rw[← hgo]
   exact post80 (HeapOk.env (E:=⟨b0,N,st,13,[D]⟩) (E':=⟨b0,N,st,nt0,mk0⟩) rfl rfl rfl hW)
 have fin1:∀ (A':Option Addr) (c':Nat) (zs':List Int) (r:List SO) W,zs'=zs++goesL l.length i x→HeapOk ⟨b0,N,st,53,[]⟩ ([.own 3 1 1 A' zs'.length c' (isV zs'),.cells g1 22 [.val (.slice B l.length bc)],.cells g2 3 [.val (.int .i64 (i:Int))],.cells g3 77 [.own 0 1],.obj D (.deferred (some [])),.obj lno (.loop rec),.cells g 47 (In.sv x)]++r) W→R' (tupOf []) W:=by
  rintro A' c' zs' r W hgo hW
  refine hend _ _ W rfl (zj05 ?_) (HeapOk.env (E:=⟨b0,N,st,53,[]⟩) (E':=⟨b0,N,st,13,[]⟩) rfl rfl rfl hW) ?_
  ·simp[extB,SO.blk,bump]
  (refine Y_goM 600 ?_; dsimp only[go_sem,reduceAdd,Nat.reduceBEq])
  refine zj58 (vs:=[.slice A' zs'.length c']) 4 r123 rfl rfl rfl fun W hW=>hR _ _ ⟨A',c',?_,?_⟩
  ·rw[← hgo]; rfl
  ·rw[← hgo]
   exact post80 (HeapOk.env (E:=⟨b0,N,st,13,[D]⟩) (E':=⟨b0,N,st,nt0,mk0⟩) rfl rfl rfl hW)
 have fin2:∀ (A':Option Addr) (c':Nat) (zs':List Int) (r:List SO) W,zs'=zs++goesL l.length i x→HeapOk ⟨b0,N,st,53,[]⟩ ([.own 3 2 1 A' zs'.length c' (isV zs'),.cells g1 22 [.val (.slice B l.length bc)],.cells g2 3 [.val (.int .i64 (i:Int))],.cells g3 77 [.own 0 2],.obj D (.deferred (some [])),.obj lno (.loop rec),.cells g 47 (In.sv x)]++r) W→R' (tupOf []) W:=by
  rintro A' c' zs' r W hgo hW
  refine hend _ _ W rfl (zj05 ?_) (HeapOk.env (E:=⟨b0,N,st,53,[]⟩) (E':=⟨b0,N,st,13,[]⟩) rfl rfl rfl hW) ?_
  ·simp[extB,SO.blk,bump]
  (refine Y_goM 600 ?_; dsimp only[go_sem,reduceAdd,Nat.reduceBEq])
  refine zj58 (vs:=[.slice A' zs'.length c']) 4 r123 rfl rfl rfl fun W hW=>hR _ _ ⟨A',c',?_,?_⟩
  ·rw[← hgo]; rfl
  ·rw[← hgo]
   exact post80 (HeapOk.env (E:=⟨b0,N,st,13,[D]⟩) (E':=⟨b0,N,st,nt0,mk0⟩) rfl rfl rfl hW)
 have sec0:zs++(if !(x.op == 13) && decide (i+1 < l.length) then [((i:Int)+1)] else [])=zs++goesL l.length i x →
   G (cxOf Tryz.prog Tryz.f124 K124 T124 R') ⟨b0,N,st,53,[]⟩ [.code (.ref 1)] { F:=[(0,.val (.func (.yield lno) #[] #[])),(1,.ptr 1 0),(2,.ptr 2 0),(4,.ptr 6 0)],H:=[.own 3 0 1 A zs.length c (isV zs),.cells g1 22 [.val (.slice B l.length bc)],.cells g2 3 [.val (.int .i64 (i:Int))],.cells g3 77 [.own 0 0],.obj D (.deferred (some [])),.obj lno (.loop rec),.cells g 47 (In.sv x)] }:=by
  intro hgo
  (refine Y_go 600 ?_; dsimp only[go_sem,In.sv,Nat.reduceBEq,reduceAdd])
  refine⟨fun h13=>⟨((i+1:Nat):Int),ArOk.to (by omega) (by omega) (by omega),fun hlt2=>⟨((i+1:Nat):Int),ArOk.to (by omega) (by omega) (by omega),?_⟩,fun hge2=>zj0u (vs:=[]) r124 rfl rfl fun W hW=>fin0 A c zs [] W ?_ ⟨rfl,rfl,rfl⟩ hW⟩,fun h13=>zj0u (vs:=[]) r124 rfl rfl fun W hW=>fin0 A c zs [] W ?_ ⟨rfl,rfl,rfl⟩ hW⟩
  ·have h13:(!(x.op == 13))=true:=h13
   have hlt2:i+1 < l.length:=by have:=of_decide_eq_true hlt2; omega
   have hgo:zs++[((i+1:Nat):Int)]=zs++goesL l.length i x:=by rw[← hgo,h13,decide_eq_true hlt2]; rfl
   refine zj0x (C':=cxOf Tryz.prog Tryz.f124 K124 T124 R') (E:=⟨b0,N,st,13,[]⟩) (i:=5) (rec:=rec) (lno:=lno) (keep:=K123) ?_ ?_ ?_ hrec ?_ ?_ ?_ ?_ ?_ ?_
   ·rfl
   ·rfl
   ·rfl
   ·simp
   ·rfl
   ·rfl
   ·rfl
   ·exact zj05 (by simp[extB,SO.blk,bump])
   intro J Q' hQ' hbeg hnorm hjmp
   have hF:zj0e (fun _ _ _=>False):=fun _ _ _ h=>h
   (refine zj0c hF 100 ?_; dsimp only[go_sem,Nat.reduceBEq,setPs])
   refine zj02 fun a W rep=>hbeg _ _ rfl ?_ a W rep
   (refine zj0c hQ' 100 ?_; dsimp only[go_sem,Nat.reduceBEq,reduceAdd,Nat.reduceMul])
   intro g5
   refine⟨⟨by simp only[maxLen]; omega,by omega⟩,fun A5 c5=>?_⟩
   have ez:isV zs++[Value.int .i64 ((i+1:Nat):Int)]=isV (zs++[((i+1:Nat):Int)]):=by simp[isV]
   have el:zs.length+1=(zs++[((i+1:Nat):Int)]).length:=by simp
   rw[ez,el]
   refine zj0s fun a W rep=>hnorm _ rfl (zj05 (by simp[extB,SO.blk,bump])) ?_ _ a W rep
   (refine Y_go 600 ?_; dsimp only[go_sem,Nat.reduceBEq])
   exact zj0u (vs:=[]) r124 rfl rfl fun W hW=>fin1 A5 c5 _ [.cells g5 3 [.val (.int .i64 ((i+1:Nat):Int))]] W hgo hW
  ·have hge2:¬ i+1 < l.length:=by have:=of_decide_eq_false hge2; omega
   rw[decide_eq_false hge2,Bool.and_false] at hgo
   simpa using hgo
  ·have h13:(!(x.op == 13))=false:=h13
   rw[h13,Bool.false_and] at hgo
   simpa using hgo
 have sec1:∀ (A':Option Addr) (c':Nat) (zs1:List Int),zs1.length≤100001→zs1++(if !(x.op == 13) && decide (i+1 < l.length) then [((i:Int)+1)] else [])=zs++goesL l.length i x →
   G (cxOf Tryz.prog Tryz.f124 K124 T124 R') ⟨b0,N,st,53,[]⟩ [.code (.ref 1)] { F:=[(0,.val (.func (.yield lno) #[] #[])),(1,.ptr 1 0),(2,.ptr 2 0),(4,.ptr 6 0)],H:=[.own 3 1 1 A' zs1.length c' (isV zs1),.cells g1 22 [.val (.slice B l.length bc)],.cells g2 3 [.val (.int .i64 (i:Int))],.cells g3 77 [.own 0 1],.obj D (.deferred (some [])),.obj lno (.loop rec),.cells g 47 (In.sv x)] }:=by
  intro A' c' zs1 hz1 hgo
  (refine Y_go 600 ?_; dsimp only[go_sem,In.sv,Nat.reduceBEq,reduceAdd])
  refine⟨fun h13=>⟨((i+1:Nat):Int),ArOk.to (by omega) (by omega) (by omega),fun hlt2=>⟨((i+1:Nat):Int),ArOk.to (by omega) (by omega) (by omega),?_⟩,fun hge2=>zj0u (vs:=[]) r124 rfl rfl fun W hW=>fin1 A' c' zs1 [] W ?_ hW⟩,fun h13=>zj0u (vs:=[]) r124 rfl rfl fun W hW=>fin1 A' c' zs1 [] W ?_ hW⟩
  ·have h13:(!(x.op == 13))=true:=h13
   have hlt2:i+1 < l.length:=by have:=of_decide_eq_true hlt2; omega
   have hgo:zs1++[((i+1:Nat):Int)]=zs++goesL l.length i x:=by rw[← hgo,h13,decide_eq_true hlt2]; rfl
   refine zj0x (C':=cxOf Tryz.prog Tryz.f124 K124 T124 R') (E:=⟨b0,N,st,13,[]⟩) (i:=5) (rec:=rec) (lno:=lno) (keep:=K123) ?_ ?_ ?_ hrec ?_ ?_ ?_ ?_ ?_ ?_
   ·rfl
   ·rfl
   ·rfl
   ·simp
   ·rfl
   ·rfl
   ·rfl
   ·exact zj05 (by simp[extB,SO.blk,bump])
   intro J Q' hQ' hbeg hnorm hjmp
   have hF:zj0e (fun _ _ _=>False):=fun _ _ _ h=>h
   (refine zj0c hF 100 ?_; dsimp only[go_sem,Nat.reduceBEq,setPs])
   refine zj02 fun a W rep=>hbeg _ _ rfl ?_ a W rep
   (refine zj0c hQ' 100 ?_; dsimp only[go_sem,Nat.reduceBEq,reduceAdd,Nat.reduceMul])
   intro g5
   refine⟨⟨by simp only[maxLen]; omega,by omega⟩,fun A5 c5=>?_⟩
   have ez:isV zs1++[Value.int .i64 ((i+1:Nat):Int)]=isV (zs1++[((i+1:Nat):Int)]):=by simp[isV]
   have el:zs1.length+1=(zs1++[((i+1:Nat):Int)]).length:=by simp
   rw[ez,el]
   refine zj0s fun a W rep=>hnorm _ rfl (zj05 (by simp[extB,SO.blk,bump])) ?_ _ a W rep
   (refine Y_go 600 ?_; dsimp only[go_sem,Nat.reduceBEq])
   exact zj0u (vs:=[]) r124 rfl rfl fun W hW=>fin2 A5 c5 _ [.cells g5 3 [.val (.int .i64 ((i+1:Nat):Int))]] W hgo hW
  ·have hge2:¬ i+1 < l.length:=by have:=of_decide_eq_false hge2; omega
   rw[decide_eq_false hge2,Bool.and_false] at hgo
   simpa using hgo
  ·have h13:(!(x.op == 13))=false:=h13
   rw[h13,Bool.false_and] at hgo
   simpa using hgo
 cases hb:legalB x with
 | false =>
  refine zj00 (vs:=[In.val x]) rfl (fun W hW=>zj19 x W (hG.at (HeapOk.env (E:=⟨b0,N,st,53,[]⟩) (E':=⟨b0,N,st,nt0,mk0⟩) rfl rfl rfl hW))) fun v hv=>⟨.bf,by rw[hv,hb]; simp[Is],?_⟩
  (refine Y_go 600 ?_; dsimp only[go_sem,Nat.reduceBEq])
  exact zj01 (vs:=[]) r124 rfl rfl fun W hW=>fin0 A c zs [] W (by unfold goesL; rw[hb]; simp) ⟨rfl,rfl,rfl⟩ hW
 | true =>
  refine zj00 (vs:=[In.val x]) rfl (fun W hW=>zj19 x W (hG.at (HeapOk.env (E:=⟨b0,N,st,53,[]⟩) (E':=⟨b0,N,st,nt0,mk0⟩) rfl rfl rfl hW))) fun v hv=>⟨.bt,by rw[hv,hb]; simp[Is],?_⟩
  (refine Y_go 600 ?_; dsimp only[go_sem,Nat.reduceBEq,reduceAdd])
  refine⟨fun h1=>zj01 (vs:=[]) r124 rfl rfl fun W hW=>fin0 A c zs [] W (by unfold goesL; rw[hb,h1]; simp) ⟨rfl,rfl,rfl⟩ hW,fun h1=>?_⟩
  have hgo:goesL l.length i x=(if brB x.op && (decide (0≤x.imm) && decide (x.imm < l.length)) then [x.imm] else [])++(if !(x.op == 13) && decide (i+1 < l.length) then [((i:Int)+1)] else []):=by unfold goesL; rw[hb,h1]; rfl
  cases hbr:brB x.op with
  | false =>
   refine zj00 (vs:=[.int .i64 x.op]) rfl (fun W hW=>zj48 x.op W) fun v hv=>⟨.bf,by rw[hv,hbr]; simp[Is],?_⟩
   (refine Y_go 22 ?_; dsimp only[go_sem,Nat.reduceBEq,Y_0])
   exact fun a W rep=>sec0 (by rw[hgo,hbr]; simp) a W (rep.le (by (simp only[go_sem,lk,Nat.reduceBEq,reduceLT,reduceAdd] <;> try simp)) (by (simp only[go_sem,lk,Nat.reduceBEq,reduceLT,reduceAdd] <;> try simp); exact⟨rfl,rfl⟩))
  | true =>
   refine zj00 (vs:=[.int .i64 x.op]) rfl (fun W hW=>zj48 x.op W) fun v hv=>⟨.bt,by rw[hv,hbr]; simp[Is],?_⟩
   (refine Y_go 18 ?_; dsimp only[go_sem,Nat.reduceBEq,reduceAdd,Y_0])
   refine⟨fun h0=>⟨fun h2=>?_,fun h2=>?_⟩,fun h0=>?_⟩
   ·have h0:decide (0≤x.imm)=true:=h0
    refine zj0x (C':=cxOf Tryz.prog Tryz.f124 K124 T124 R') (E:=⟨b0,N,st,13,[]⟩) (i:=5) (rec:=rec) (lno:=lno) (keep:=K123) ?_ ?_ ?_ hrec ?_ ?_ ?_ ?_ ?_ ?_
    ·rfl
    ·rfl
    ·rfl
    ·simp
    ·rfl
    ·rfl
    ·rfl
    ·exact zj05 (by simp[extB,SO.blk,bump])
    intro J Q' hQ' hbeg hnorm hjmp
    have hF:zj0e (fun _ _ _=>False):=fun _ _ _ h=>h
    (refine zj0c hF 100 ?_; dsimp only[go_sem,Nat.reduceBEq,setPs])
    refine zj02 fun a W rep=>hbeg _ _ rfl ?_ a W rep
    (refine zj0c hQ' 100 ?_; dsimp only[go_sem,Nat.reduceBEq,reduceAdd,Nat.reduceMul])
    intro g5
    refine⟨⟨by simp only[maxLen]; omega,by omega⟩,fun A5 c5=>?_⟩
    have ez:isV zs++[Value.int .i64 x.imm]=isV (zs++[x.imm]):=by simp[isV]
    have el:zs.length+1=(zs++[x.imm]).length:=by simp
    rw[ez,el]
    refine zj0s fun a W rep=>hnorm _ rfl (zj05 (by simp[extB,SO.blk,bump])) ?_ _ a W rep
    (refine Y_go 5 ?_; dsimp only[go_sem,Nat.reduceBEq,Y_0])
    exact fun a W rep=>sec1 A5 c5 (zs++[x.imm]) (by simp; omega) (by rw[hgo,hbr,h0,h2]; simp) a W (rep.le (by (simp only[go_sem,lk,Nat.reduceBEq,reduceLT,reduceAdd] <;> try simp)) (by (simp only[go_sem,lk,Nat.reduceBEq,reduceLT,reduceAdd] <;> try simp); exact⟨rfl,rfl⟩))
   ·(refine Y_go 4 ?_; dsimp only[go_sem,Nat.reduceBEq,Y_0])
    exact fun a W rep=>sec0 (by rw[hgo,hbr,h2]; simp) a W (rep.le (by (simp only[go_sem,lk,Nat.reduceBEq,reduceLT,reduceAdd] <;> try simp)) (by (simp only[go_sem,lk,Nat.reduceBEq,reduceLT,reduceAdd] <;> try simp); exact⟨rfl,rfl⟩))
   ·have h0:decide (0≤x.imm)=false:=h0
    (refine Y_go 4 ?_; dsimp only[go_sem,Nat.reduceBEq,Y_0])
    exact fun a W rep=>sec0 (by rw[hgo,hbr,h0]; simp) a W (rep.le (by (simp only[go_sem,lk,Nat.reduceBEq,reduceLT,reduceAdd] <;> try simp)) (by (simp only[go_sem,lk,Nat.reduceBEq,reduceLT,reduceAdd] <;> try simp); exact⟨rfl,rfl⟩))
theorem begins48 (l:List In) (B:Option Addr) (bc:Nat) (w:World) (hl:l.length≤1024) (hB:RowAt w B (cellsI l)) (hG:ShAt w) :
  CallsV Tryz.prog 103 [.slice B l.length bc] w fun v w'=>∃ (A:Option Addr) (c:Nat) (zs:List Int),v=.slice A zs.length c∧(l=[]→zs=[])∧(l ≠ []→zs=dpI (srtI ((0:Int) :: begL l.length 0 l)))∧World.ownsB w' w.heap.size 3 1 (.slice A zs.length c) zs.length (isV zs)∧Fresh w w':=by
 refine zj03 (keep:=K103) (nt:=40) (svs:=[.val (.slice B l.length bc)]) Tryz.func103 x103 n103 (by simp) (by simp[IsL,Is]) fun R hR=>?_
 (refine Y_go 600 ?_; dsimp only[go_sem,reduceAdd,Nat.reduceBEq,Nat.reduceMul])
 refine⟨fun h0=>?_,fun h0 g0=>?_⟩
 ·have h0 : l.length = 0 := by have : (l.length : Int) = 0 := by simpa using h0
                               omega
  have h0:l=[]:=List.length_eq_zero_iff.1 h0
  subst h0
  exact zj01 (vs:=[.slice none 0 0]) r103 rfl rfl fun W hW=>hR _ _ ⟨none,0,[],rfl,fun _=>rfl,fun h=>absurd rfl h,zj1b _ _ _ _,hW.fresh'⟩
 ·refine zj08 (α:=Nat × Option Addr × Nat) (fun q=>q.1≤l.length) (fun _=>⟨w,w.heap.size,[],40,[]⟩) (fun q=>{ F:=[(0,.val (.slice B l.length bc)),(3,.own 0 0),(10,.val (.slice B l.length bc)),(11,.val (.int .i64 l.length)),(12,.val (.int .i64 (q.1:Int)))],H:=[.own 3 0 1 q.2.1 (begT l q.1).length q.2.2 (isV (begT l q.1))] }) (fun q=>l.length - q.1) (fun _=>rfl) ?start ?round
  case start =>
   intro a W rep
   have rep1:=(rep.ownC 3 (n:=1) (sz:=1) (xs:=[.int .i64 0]) rfl rfl rfl rfl (by decide)).pick [1] (by decide)
   exact⟨(0,some ⟨g0,0,none⟩,1),Nat.zero_le _,rep1.le (by (simp only[go_sem,renF,renV,renVL,renO,pickH,pickE,posOf,lk,Nat.reduceBEq,reduceLT,reduceAdd] <;> try simp)) (by (simp only[go_sem,renF,renV,renVL,renO,pickH,pickE,posOf,lk,Nat.reduceBEq,reduceLT,reduceAdd] <;> try simp); exact⟨rfl,rfl⟩)⟩
  case round =>
   rintro ⟨i,A,c⟩ hi I again
   have hi:i≤l.length:=hi
   (refine Y_go 600 ?_; dsimp only[go_sem,Nat.reduceBEq,reduceAdd])
   refine⟨fun hlt=>?_,fun hge=>?_⟩
   ·have hlt:i < l.length:=by have:=of_decide_eq_true hlt; omega
    have hx:l[i]? = some l[i]:=List.getElem?_eq_getElem hlt
    have hi1:((i:Nat):Int).toNat=i:=by omega
    have cl:∀ k v,k < 5→(l[i]).cells[k]? = some v→CellAt ⟨w,w.heap.size,[],40,[]⟩ B (i*5+k) v:=fun k v hk hv=>hB.cell (by rw[zj0y l hlt hk]; exact hv)
    have sB:=someI hB hlt
    generalize l[i]=x at cl hx
    have hst:=begT_step hx
    rw[hi1]
    refine⟨⟨by omega,by omega,sB⟩,_,cl 0 _ (by omega) rfl,_,cl 1 _ (by omega) rfl,_,cl 2 _ (by omega) rfl,_,cl 3 _ (by omega) rfl,_,cl 4 _ (by omega) rfl,fun g=>?_⟩
    cases he:endsB x with
    | false =>
     refine zj00 (vs:=[In.val x]) rfl (fun W hW=>ends79 x W (hG.keep hW.fresh')) fun v hv=>⟨.bf,by rw[hv,he]; simp[Is],?_⟩
     (refine Y_go 600 ?_; dsimp only[go_sem,Nat.reduceBEq])
     have hst:begT l (i+1)=begT l i:=by rw[hst]; unfold begS; rw[he]; simp
     refine⟨((i+1:Nat):Int),ArOk.to (by omega) (by omega) (by omega),zj02 fun a W rep=>again (i+1,A,c) (by show i+1≤_; omega) (by show l.length - (i+1) < l.length - i; omega) a W (rep.le (by (simp only[go_sem,lk,Nat.reduceBEq,reduceLT,reduceAdd] <;> try simp)) ?_)⟩
     rw[hst]; (simp only[go_sem,lk,Nat.reduceBEq,reduceLT,reduceAdd] <;> try simp)
    | true =>
     refine zj00 (vs:=[In.val x]) rfl (fun W hW=>ends79 x W (hG.keep hW.fresh')) fun v hv=>⟨.bt,by rw[hv,he]; simp[Is],?_⟩
     (refine Y_go 600 ?_; dsimp only[go_sem,Nat.reduceBEq,Nat.reduceMul,reduceAdd])
     have hbg:(begT l i).length≤99999:=by
      have:=zj5h l.length 0 (l.take i)
      rw[List.length_take] at this
      unfold begT; rw[List.length_cons]; omega
     have goon:∀ (A1:Option Addr) (c1:Nat) (zs1:List Int),zs1.length≤100000→begT l (i+1)=zs1++goesL l.length i x →
       G (cxOf Tryz.prog Tryz.f103 K103 T103 R) ⟨w,w.heap.size,[],40,[]⟩ [.ops [⟨some 33,none,.call 104 [.tmp 31,.tmp 32]⟩,⟨some 34,none,.call 123 [.tmp 30,.tmp 33]⟩,⟨some 3,none,.k (.mov (.tmp 34))⟩],.blk 1,.code (.ops [⟨some 35,none,.k (.arith .add .i64 (.tmp 12) (.const (.int .i64 1)))⟩,⟨some 12,none,.k (.mov (.tmp 35))⟩]),.lend I,.blk 0,.code (.ref 9)]
        { F:=[(32,.val (.int .i64 (i:Int))),(31,.val (.slice B l.length bc)),(30,.own 0 0),(0,.val (.slice B l.length bc)),(3,.own 0 0),(10,.val (.slice B l.length bc)),(11,.val (.int .i64 l.length)),(12,.val (.int .i64 (i:Int)))],H:=[.own 3 0 1 A1 zs1.length c1 (isV zs1)] }:=by
      intro A1 c1 zs1 hz hbe
      refine zj0b (vs:=[.slice B l.length bc,.int .i64 (i:Int)]) rfl (R:=fun W v W'=>∃ g1 g2,v=.func (.func 124) #[] #[.pointer (some ⟨g1,0,none⟩),.pointer (some ⟨g2,0,none⟩)] ∧
       (W.heap.size≤g1∧g1 < W'.heap.size)∧(W.heap.size≤g2∧g2 < W'.heap.size)∧g1 ≠ g2∧W'.heap[g1]? = some (.cells #[.slice B l.length bc] 22 (0,0))∧W'.heap[g2]? = some (.cells #[.int .i64 (i:Int)] 3 (0,0))∧Fresh W W') (fun W hW=>goes67 B l.length bc i W) fun W v W' hW ⟨g1,g2,hv,hg1,hg2,hne,hc1,hc2,hf⟩=>?_
      refine⟨.fn (.func 124) [] [.ptr 1 0,.ptr 2 0],[.own 3 0 1 A1 zs1.length c1 (isV zs1),.cells g1 22 [.val (.slice B l.length bc)],.cells g2 3 [.val (.int .i64 (i:Int))]],?_,?_,?_,?_⟩
      ·rw[hv]; simp[Is,IsL,blk,nth]
      ·exact zj05 (by simp[extB])
      ·have k1:=hW.pushG (row:=none) (e:=.cells g1 22 [.val (.slice B l.length bc)]) hf.size hf.os hf.tape hf.output (fun j hj _=>hf.block j hj) (fun _ e=>by cases e) (fun g' hg'=>by
        simp[SO.fp] at hg'; subst hg'
        exact⟨.inr hg1.1,hg1.2⟩) ⟨_,hc1,by simp[IsL,Is]⟩
       exact k1.cellF hc2 (fun ho=>by
        have h1:w.heap.size≤W.heap.size:=hW.floor
        have h2:g2 < w.heap.size:=ho.1
        omega) (fun hm=>by
        rw[zj64,List.mem_append] at hm
        rcases hm with hm | hm
        ·have:=hW.fps_lt hm; omega
        ·simp at hm; exact hne hm.symm) (by simp[IsL,Is])
      clear hc1 hc2 hf hv hW
      simp only[putF]
      refine zj2s [.own 3 0 1 A1 zs1.length c1 (isV zs1),.cells g1 22 [.val (.slice B l.length bc)],.cells g2 3 [.val (.int .i64 (i:Int))]] [] (vs:=[.slice A1 zs1.length c1,.func (.func 124) #[] #[.pointer (some ⟨g1,0,none⟩),.pointer (some ⟨g2,0,none⟩)]]) (fun v H1'=>∃ (A':Option Addr) (c':Nat),v=.slice A' (zs1++goesL l.length i x).length c'∧H1'=[.own 3 1 1 A' (zs1++goesL l.length i x).length c' (isV (zs1++goesL l.length i x)),.cells g1 22 [.val (.slice B l.length bc)],.cells g2 3 [.val (.int .i64 (i:Int))]]) rfl rfl (fun W hW hW1=>?_) ?_
      ·obtain⟨_,ov⟩:=hW.rebase 40 []
       have hB0:RowE ⟨w,w.heap.size,[],40,[]⟩ B (cellsI l):=hB.toE (by simp) 40 []
       have hG0:RowE ⟨w,w.heap.size,[],40,[]⟩ (some ⟨0,0,none⟩) shL:=RowAt.toE hG (by simp) 40 []
       refine (append80 (E0:=⟨W,W.heap.size,_,0,[]⟩) hx (by omega) (by omega) ((hB0.over ov).env rfl rfl rfl) ((hG0.over ov).env rfl rfl rfl) hW1).mono fun v W' ⟨A',c',h1,h2⟩=>⟨_,⟨A',c',h1,rfl⟩,?_,rfl,h2⟩
       ·exact HExt.setOwn (i:=0) (H:=[.own 3 0 1 A1 zs1.length c1 (isV zs1),.cells g1 22 [.val (.slice B l.length bc)],.cells g2 3 [.val (.int .i64 (i:Int))]]) rfl (Nat.le_succ 0) fun e=>absurd e (by omega)
      ·rintro v H1' ⟨A',c',rfl,rfl⟩
       refine⟨.own 0 1,?_,?_⟩
       ·simp only[List.append_nil,Is]; exact⟨_,_,_,_,_,_,_,rfl,Nat.le_refl _,⟨_,_,_,rfl⟩,fun _=>rfl⟩
       simp only[putF,List.append_nil]
       (refine Y_go 600 ?_; dsimp only[go_sem,Nat.reduceBEq])
       refine⟨((i+1:Nat):Int),ArOk.to (by omega) (by omega) (by omega),zj02 fun a W rep=>again (i+1,A',c') (by show i+1≤_; omega) (by show l.length - (i+1) < l.length - i; omega) a W (rep.res.le (by (simp only[go_sem,lk,Nat.reduceBEq,reduceLT,reduceAdd] <;> try simp)) ?_)⟩
       rw[hbe]; (simp only[go_sem,lk,Nat.reduceBEq,reduceLT,reduceAdd] <;> try simp)
     refine⟨((i+1:Nat):Int),ArOk.to (by omega) (by omega) (by omega),fun hlt2=>⟨((i+1:Nat):Int),ArOk.to (by omega) (by omega) (by omega),fun g6=>⟨⟨by simp only[maxLen]; omega,by omega⟩,fun A1 c1=>fun a W rep=>goon A1 c1 (begT l i++[((i+1:Nat):Int)]) (by simp; omega) ?_ a W (rep.res.le (by (simp only[go_sem,lk,Nat.reduceBEq,reduceLT,reduceAdd] <;> try simp)) (by (simp only[go_sem,lk,Nat.reduceBEq,reduceLT,reduceAdd] <;> try simp); simp[isV]))⟩⟩,fun hge2=>fun a W rep=>goon A c (begT l i) (by omega) ?_ a W (rep.lq)⟩
     ·have hlt2:i+1 < l.length:=by have:=of_decide_eq_true hlt2; omega
      rw[hst]; unfold begS; rw[if_pos he,if_pos hlt2,List.append_assoc]; rfl
     ·have hge2:¬ i+1 < l.length:=by have:=of_decide_eq_false hge2; omega
      rw[hst]; unfold begS; rw[if_pos he,if_neg hge2,List.nil_append]
   ·have hil:i=l.length:=by have:=of_decide_eq_false hge; omega
    subst hil
    have hbl:=zj5h l.length 0 l
    have hlen:(srtI (begT l l.length)).length=(begT l l.length).length:=List.length_mergeSort _
    have hbt:begT l l.length=0 :: begL l.length 0 l:=by unfold begT; rw[List.take_length]
    have hb2:(begT l l.length).length≤100000:=by rw[hbt,List.length_cons]; omega
    have hne:l ≠ []:=by intro e; subst e; simp at h0
    obtain⟨zs,hzs⟩:∃ zs,begT l l.length=zs:=⟨_,rfl⟩
    rw[hzs] at hlen hb2 hbt ⊢
    refine zj0b (vs:=[.slice A zs.length c]) rfl (R:=fun W v W'=>v=.tuple #[]∧HeapOk ⟨w,w.heap.size,[],40,[]⟩ [.own 3 0 1 A zs.length c (isV (srtI zs))] W') (fun W hW=>sort68 hW (i:=0) rfl (by omega)) fun W v W' hW ⟨hv,hW'⟩=>⟨.tup [],_,by rw[hv]; simp[Is,IsL],HExt.setOwn (i:=0) rfl (Nat.le_refl _) fun _=>⟨rfl,rfl,rfl⟩,hW',?_⟩
    refine G.le (E':=⟨w,w.heap.size,[],40,[]⟩) rfl (s':={ F:=[(3,.own 0 0)],H:=[.own 3 0 1 A (srtI zs).length c (isV (srtI zs))] }) (fun a W rep=>rep.le (by simp only[putF,setn]; (simp only[go_sem,lk,Nat.reduceBEq,reduceLT,reduceAdd] <;> try simp)) (by simp only[setn]; (simp only[go_sem,lk,Nat.reduceBEq,reduceLT,reduceAdd] <;> try simp); exact hlen.symm)) ?_
    (refine Y_go 600 ?_; dsimp only[go_sem,Nat.reduceBEq])
    refine zj0b (vs:=[.slice A (srtI zs).length c]) rfl (R:=fun W v W'=>v=.slice A (dpI (srtI zs)).length c∧HeapOk ⟨w,w.heap.size,[],40,[]⟩ [.own 3 1 1 A (dpI (srtI zs)).length c (isV (dpI (srtI zs)))] W') (fun W hW=>(compact69 hW (i:=0) rfl (by omega)).mono fun v W' h=>⟨h.1,h.2.2⟩) fun W v W' hW ⟨hv,hW'⟩=>⟨.own 0 1,_,?_,HExt.setOwn (i:=0) rfl (Nat.le_succ 0) fun e=>absurd e (by omega),hW',?_⟩
    ·rw[hv]; simp only[Is]; exact⟨_,_,_,_,_,_,_,rfl,Nat.le_refl _,⟨_,_,_,rfl⟩,fun _=>rfl⟩
    simp only[setn]
    (refine Y_go 600 ?_; dsimp only[go_sem,Nat.reduceBEq])
    exact zj01 (vs:=[.slice A (dpI (srtI zs)).length c]) r103 rfl rfl fun W hW=>hR _ _ ⟨A,c,dpI (srtI zs),rfl,fun e=>absurd e hne,fun _=>by rw[hbt],hW.owns (i:=0) rfl,hW.fresh'⟩
end Go.Proofs.YtgghmmjoplddbaaGreatDoor
