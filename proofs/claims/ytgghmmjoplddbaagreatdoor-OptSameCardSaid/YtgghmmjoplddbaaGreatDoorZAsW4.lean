/- What a text's lines say: asm.read. -/
import Derived.Test.YtgghmmjoplddbaaGreatDoorZAsW3
set_option linter.unusedSimpArgs false
set_option linter.unusedVariables false
set_option linter.unnecessarySimpa false
namespace Go.Proofs.YtgghmmjoplddbaaGreatDoor
open Go Go.Sx Go.Isa Go.Asm
open Nat (reduceAdd reduceLT)
set_option maxRecDepth 100000
def lnC (y:Ln):List Value:=.int .i64 y.n :: (y.x.cells++[.string ⟨⟨y.name⟩⟩])
def lnV (l:List Ln):List Value:=l.flatMap lnC
def lbC (y:B × Nat):List Value:=[.string ⟨⟨y.1⟩⟩,.int .i64 y.2]
def lbV (l:List (B × Nat)):List Value:=l.flatMap lbC
theorem lnV_app (a b:List Ln):lnV (a++b)=lnV a++lnV b:=by simp[lnV]
theorem lbV_app (a b:List (B × Nat)):lbV (a++b)=lbV a++lbV b:=by simp[lbV]
abbrev ops9:List XS:=match T66n9 with | .seq (.ops (_ :: l)) _=>l | _=>[]
structure R96 where
 k:Nat
 l:List Ln
 lb:List (B × Nat)
 A:Option Addr
 c:Nat
 A':Option Addr
 c':Nat
 m:List (Value × Value)
def readR (r:List Ln × List (B × Nat) × Nat) (w w':World) (v:Value):Prop:=∃ (A:Option Addr) (c:Nat) (A':Option Addr) (c':Nat),v=.tuple #[.slice A r.1.length c,.slice A' r.2.1.length c',.int .i64 r.2.2] ∧
 World.ownsB w' w.heap.size 145 7 (.slice A r.1.length c) r.1.length (lnV r.1)∧World.ownsB w' w.heap.size 143 2 (.slice A' r.2.1.length c') r.2.1.length (lbV r.2.1)∧Fresh w w'
theorem read96 (t:B) (w:World) (ht:t.length≤400000) (hG:ShAt w) (hT:TabAt w) (hLb:LibAt w) :
  CallsV Tryz.prog 66 [.string ⟨⟨t⟩⟩] w fun v w'=>readR (readL (linesL t) [] []) w w' v:=by
 refine zj3j (keep:=K66) (nt:=71) (svs:=[.val (.string ⟨⟨t⟩⟩)]) Tryz.func66 x66 n66 (by simp) (by simp[IsL,Is]) fun R hR=>?_
 (refine Y_goM 600 ?_; dsimp only[go_sem,reduceAdd,Nat.reduceBEq])
 intro q0 q1 q2 q3 q4 gm q6
 refine zj0b (vs:=[.string ⟨⟨t⟩⟩]) rfl (R:=fun W v W'=>∃ g,v=.func (.func 110) #[] #[.pointer (some ⟨g,0,none⟩)]∧(W.heap.size≤g∧g < W'.heap.size)∧W'.heap[g]? = some (.cells #[.string ⟨⟨t⟩⟩] 9 (0,0))∧Fresh W W') (fun W hW=>lines125 t W) fun W v W' hW ⟨g,hv,hg,hgc,hf⟩=>?_
 refine⟨.fn (.func 110) [] [.ptr 7 0],[.cells q0 136 [.val (.slice none 0 0)],.cells q1 137 [.val (.slice none 0 0)],.cells q2 3 [.val (.int .i64 0)],.cells q3 136 [.val (.slice none 0 0)],.cells q4 137 [.val (.slice none 0 0)],.map gm [],.cells q6 141 [.mp 5],.cells g 9 [.val (.string ⟨⟨t⟩⟩)]],?_,?_,?_,?_⟩
 ·rw[hv]; simp[Is,IsL,blk,nth]
 ·exact HExt.push _ _
 ·refine hW.pushG (row:=none) hf.size hf.os hf.tape hf.output (fun j hj _=>hf.block j hj) (fun _ e=>by cases e) (fun g' hg'=>?_) ⟨_,hgc,by simp[IsL,Is]⟩
  simp[SO.fp] at hg'; subst hg'
  exact⟨.inr hg.1,hg.2⟩
 clear hgc hf hv hW
 (refine Y_goM 600 ?_; dsimp only[go_sem,Nat.reduceBEq])
 refine zj34 rfl rfl (gf:=110) (caps:=[.pointer (some ⟨g,0,none⟩)]) rfl rfl ?_
 intro D lno rec hrec R' hend hjump W1 hW1
 refine zj2k (keep:=K110) (nt:=30) (E:=⟨w,w.heap.size,[],71,[]⟩) (svs:=[.val (.func (.yield lno) #[] #[]),.ptr 7 0]) Tryz.func110 x110 n110 (by simp) hW1 (by simp[IsL,Is,blk,nth]) ?_
 (refine Y_go 600 ?_; dsimp only[go_sem,reduceAdd])
 refine zj36 (fun _ _ _ h=>h) ?_
 (refine Y_go 600 ?_; dsimp only[go_sem,Nat.reduceBEq,reduceAdd])
 refine zj1d (vs:=[.string ⟨⟨t⟩⟩,.string ⟨⟨[10]⟩⟩]) rfl (fun W hW=>splitC t W (by omega) (hLb.keep hW.fresh')) fun A c=>?_
 (refine Y_go 600 ?_; dsimp only[go_sem,reduceAdd,Nat.reduceBEq])
 have hpl:=zj30 t []
 have hpp:∀ p ∈ pieces [] t,p.length≤t.length:=fun p hp=>by simpa using zj1u t [] p hp
 have hres:readL (linesL t) [] []=readL (linesF (pieces [] t) 1) [] []:=rfl
 generalize readL (linesL t) [] []=res at hR hres ⊢
 generalize pieces [] t=ps at hpl hpp hres ⊢
 refine zj08 (α:=R96) (fun x=>(x.k≤ps.length∧x.l.length≤1024∧x.lb.length≤x.k)∧readL (linesF (ps.drop x.k) (x.k+1)) x.l x.lb=res∧Holds1 x.m (x.lb.map (·.1))) (fun _=>⟨w,w.heap.size,[],30,[]⟩)
  (fun x=>{ F:=[(0,.val (.func (.yield lno) #[] #[])),(1,.ptr 7 0),(6,.own 10 0),(7,.val (.int .i64 ps.length)),(8,.val (.int .i64 (x.k:Int)))],H:=[.cells q0 136 [.val (.slice none 0 0)],.cells q1 137 [.val (.slice none 0 0)],.cells q2 3 [.val (.int .i64 0)],.cells q3 136 [.own 11 0],.cells q4 137 [.own 12 0],.map gm x.m,.cells q6 141 [.mp 5],.cells g 9 [.val (.string ⟨⟨t⟩⟩)],.obj D (.deferred (some [])),.obj lno (.loop rec),.own 9 0 1 A ps.length c (psV ps),.own 145 0 7 x.A x.l.length x.c (lnV x.l),.own 143 0 2 x.A' x.lb.length x.c' (lbV x.lb)] }) (fun x=>ps.length - x.k) (fun _=>rfl) ?start ?round
 case start =>
  intro a W rep
  refine⟨⟨0,[],[],none,0,none,0,[]⟩,⟨⟨Nat.zero_le _,by simp,by simp⟩,hres.symm,Holds1.nil⟩,((rep.adoptC 3 145 7 rfl).adoptC 4 143 2 rfl).le (by (simp only[go_sem,lk,Nat.reduceBEq,reduceLT,reduceAdd] <;> try simp)) (by (simp only[go_sem,lk,Nat.reduceBEq,reduceLT,reduceAdd] <;> try simp); exact⟨rfl,rfl⟩)⟩
 case round =>
  rintro ⟨k,l,lb,A1,c1,A2,c2,m⟩ ⟨⟨hk,hl,hlb⟩,hread,hm⟩ I again
  have hk:k≤ps.length:=hk
  have hl:l.length≤1024:=hl
  have hlb:lb.length≤k:=hlb
  have hread:readL (linesF (ps.drop k) (k+1)) l lb=res:=hread
  have hm:Holds1 m (lb.map (·.1)):=hm
  (refine Y_go 600 ?_; dsimp only[go_sem,Nat.reduceBEq])
  have ends:∀ (r:List Ln × List (B × Nat) × Nat) (v1 v2:Nat) (W:World),r=res→∀ (B1 B2:Option Addr) (d1 d2:Nat) (H:List SO),nth H 11=some (.own 145 v1 7 B1 r.1.length d1 (lnV r.1))→nth H 12=some (.own 143 v2 2 B2 r.2.1.length d2 (lbV r.2.1))→HeapOk ⟨w,w.heap.size,[],71,[D]⟩ H W→R (.tuple #[.slice B1 r.1.length d1,.slice B2 r.2.1.length d2,.int .i64 r.2.2]) W:=by
   rintro r v1 v2 W rfl B1 B2 d1 d2 H h1 h2 hW
   exact hR _ _ ⟨B1,d1,B2,d2,rfl,hW.owns h1,hW.owns h2,hW.fresh'⟩
  refine⟨fun hlt=>?_,fun hge=>?_⟩
  ·have hlt:k < ps.length:=by have:=of_decide_eq_true hlt; omega
   have hx:ps[k]? = some ps[k]:=List.getElem?_eq_getElem hlt
   have hpx:=hpp _ (List.getElem_mem hlt)
   have hdr:ps.drop k=ps[k] :: ps.drop (k+1):=List.drop_eq_getElem_cons hlt
   generalize ps[k]=p at hx hpx hdr
   have hk1:((k:Nat):Int).toNat=k:=by omega
   have hget:(psV ps)[k*1]? = some (.string ⟨⟨p⟩⟩):=by rw[Nat.mul_one]; unfold psV; rw[List.getElem?_map,hx]; rfl
   rw[hk1]
   have hcl:=zj67 p
   have htl:=trim_len p
   have hcut:=cut_rem p
   rw[hdr] at hread
   have hlin:linesF (p :: ps.drop (k+1)) (k+1)=(match trimBl (cutRem p) with | []=>linesF (ps.drop (k+1)) (k+1+1) | ch :: r=>(k+1,ch :: r) :: linesF (ps.drop (k+1)) (k+1+1)):=rfl
   rw[hlin] at hread
   refine⟨⟨by omega,by omega⟩,_,hget,?_⟩
   refine zj00 (vs:=[.string ⟨⟨p⟩⟩,.string ⟨⟨[59]⟩⟩]) rfl (fun W hW=>cutC p [59] W (by omega) (hLb.keep hW.fresh')) fun v hv=>⟨.tup [.val (.string ⟨⟨cutRem p⟩⟩),.val (.string ⟨⟨(Lib.cut p [59]).2.1⟩⟩),.val (.bool (Lib.cut p [59]).2.2)],by rw[hv,hcut]; simp[Is,IsL],?_⟩
   (refine Y_go 600 ?_; dsimp only[go_sem,Nat.reduceBEq])
   refine zj00 (vs:=[.string ⟨⟨cutRem p⟩⟩,.string ⟨⟨[32,9]⟩⟩]) rfl (fun W hW=>trimC (cutRem p) W (by omega)) fun v hv=>⟨.val (.string ⟨⟨trimBl (cutRem p)⟩⟩),by rw[hv]; simp[Is],?_⟩
   generalize trimBl (cutRem p)=u at htl hread
   (refine Y_go 600 ?_; dsimp only[go_sem,Nat.reduceBEq])
   refine⟨fun hnil=>?_,fun hne=>?_⟩
   ·have hnil:decide (u=[])=true:=(strEq u []).symm.trans hnil
    have hnil:=of_decide_eq_true hnil
    subst hnil
    exact⟨((k+1:Nat):Int),ArOk.to (by omega) (by omega) (by omega),zj02 fun a W rep=>again ⟨k+1,l,lb,A1,c1,A2,c2,m⟩ ⟨⟨by show k+1≤_; omega,hl,by show lb.length≤k+1; omega⟩,hread,hm⟩ (by show ps.length - (k+1) < ps.length - k; omega) a W (rep.lq)⟩
   ·have hne:decide (u=[])=false:=(strEq u []).symm.trans hne
    have hne:=of_decide_eq_false hne
    have hread:readL ((k+1,u) :: linesF (ps.drop (k+1)) (k+1+1)) l lb=res:=by
     cases u with
     | nil=>exact absurd rfl hne
     | cons ch r=>exact hread
    refine⟨((k+1:Nat):Int),ArOk.to (by omega) (by omega) (by omega),?_⟩
    refine zj0x (C':=cxOf Tryz.prog Tryz.f110 K110 T110 R') (E:=⟨w,w.heap.size,[],71,[]⟩) (i:=9) (rec:=rec) (lno:=lno) (keep:=K66) ?_ ?_ ?_ hrec ?_ ?_ ?_ ?_ ?_ ?_
    ·rfl
    ·rfl
    ·rfl
    ·simp
    ·rfl
    ·rfl
    ·rfl
    ·exact zj05 (by simp[extB,SO.blk,bump])
    intro J Q' hQ' hbeg hnorm hjmp
    have hF:zj0e (fun _ _ _=>False):=fun _ _ _ h=>h
    (refine zj0c hF 200 ?_; dsimp only[go_sem,Nat.reduceBEq,setPs])
    refine zj02 fun a W rep=>hbeg _ _ rfl ?_ a W rep
    (refine zj0c hQ' 200 ?_; dsimp only[go_sem,Nat.reduceBEq])
    have told:toldL u=(if Lib.hasSuffix u [58]=true∧nameB u.dropLast=true then some u.dropLast else none):=rfl
    have hsd:=suf_dot u 58
    have hrd:readL ((k+1,u) :: linesF (ps.drop (k+1)) (k+1+1)) l lb=(match toldL u with
     | some nm=>if nm ∈ lb.map (·.1) then (l,lb,k+1) else readL (linesF (ps.drop (k+1)) (k+1+1)) l (lb++[(nm,l.length)])
     | none=>match oneL u with
      | none=>(l,lb,k+1)
      | some (x,to)=>if 1024≤l.length then (l,lb,k+1) else readL (linesF (ps.drop (k+1)) (k+1+1)) (l++[⟨k+1,x,to⟩]) lb):=rfl
    rw[hrd] at hread
    refine zj00 (vs:=[.string ⟨⟨u⟩⟩,.string ⟨⟨[58]⟩⟩]) rfl (fun W hW=>sufC u [58] W (by omega)) fun v hv=>⟨.tup [.val (.string ⟨⟨Lib.trimSuffix u [58]⟩⟩),.val (.bool (Lib.hasSuffix u [58]))],by rw[hv]; simp[Is,IsL],?_⟩
    (refine zj0c hQ' 200 ?_; dsimp only[go_sem,Nat.reduceBEq])
    -- a wrong line: what is read so far is answered
    have leave:(l,lb,k+1)=res→RetG (cxR Tryz.prog K66 T66 lno Q') ⟨w,w.heap.size,[],71,[]⟩ { F:=[],H:=[.cells q0 136 [.own 11 0],.cells q1 137 [.own 12 0],.cells q2 3 [.val (.int .i64 ((k+1:Nat):Int))],.cells q3 136 [.own 11 0],.cells q4 137 [.own 12 0],.map gm m,.cells q6 141 [.mp 5],.cells g 9 [.val (.string ⟨⟨t⟩⟩)],.obj D (.deferred (some [])),.obj lno (.loop { rec with state:=.busy }),.own 9 0 1 A ps.length c (psV ps),.own 145 0 7 A1 l.length c1 (lnV l),.own 143 0 2 A2 lb.length c2 (lbV lb)] }:=by
     intro hrs
     refine fun a W rep=>hjmp .ret _ rfl (zj05 (by simp[extB,SO.blk,bump])) ?_ [] a W rep
     (refine Y_go 600 ?_; dsimp only[go_sem,Nat.reduceBEq])
     refine zj01 (vs:=[]) r110 rfl rfl fun W hW=>?_
     refine hjump .ret _ _ W ?_ (zj05 ?_) (HeapOk.env (E:=⟨w,w.heap.size,[],30,[]⟩) (E':=⟨w,w.heap.size,[],71,[]⟩) rfl rfl rfl hW) ?_
     ·rfl
     ·simp[extB,SO.blk,bump]
     (refine Y_goM 600 ?_; dsimp only[List.length_cons,List.length_nil,reduceAdd,setn])
     refine ret_rvm (vs:=[.slice A1 l.length c1,.slice A2 lb.length c2,.int .i64 ((k+1:Nat):Int)]) 8 r66 rfl rfl rfl fun W hW=>?_
     exact ends (l,lb,k+1) 0 0 W hrs A1 A2 c1 c2 _ rfl rfl (HeapOk.env (E:=⟨w,w.heap.size,[],71,[D]⟩) (E':=⟨w,w.heap.size,[],71,[D]⟩) rfl rfl rfl hW)
    -- a line that is not a label
    have inst:toldL u=none→∀ F,leF 13 F [(0,.val (.string ⟨⟨t⟩⟩)),(2,.ptr 0 0),(3,.ptr 1 0),(4,.ptr 2 0),(5,.ptr 3 0),(6,.ptr 4 0),(7,.ptr 6 0),(8,.val (.int .i64 ((k+1:Nat):Int))),(9,.val (.string ⟨⟨u⟩⟩)),(17,.fn (.func 110) [] [.ptr 7 0]),(47,.val (.string ⟨⟨u⟩⟩))]→G (cxR Tryz.prog K66 T66 lno Q') ⟨w,w.heap.size,[],71,[]⟩ [.ops ops9,.code (.ref 8),.blk 1] { F:=F,H:=[.cells q0 136 [.val (.slice none 0 0)],.cells q1 137 [.val (.slice none 0 0)],.cells q2 3 [.val (.int .i64 0)],.cells q3 136 [.own 11 0],.cells q4 137 [.own 12 0],.map gm m,.cells q6 141 [.mp 5],.cells g 9 [.val (.string ⟨⟨t⟩⟩)],.obj D (.deferred (some [])),.obj lno (.loop { rec with state:=.busy }),.own 9 0 1 A ps.length c (psV ps),.own 145 0 7 A1 l.length c1 (lnV l),.own 143 0 2 A2 lb.length c2 (lbV lb)] }:=by
     intro hnone F hF
     refine G.le (E':=⟨w,w.heap.size,[],71,[]⟩) (s':={ F:=[(0,.val (.string ⟨⟨t⟩⟩)),(2,.ptr 0 0),(3,.ptr 1 0),(4,.ptr 2 0),(5,.ptr 3 0),(6,.ptr 4 0),(7,.ptr 6 0),(8,.val (.int .i64 ((k+1:Nat):Int))),(9,.val (.string ⟨⟨u⟩⟩)),(17,.fn (.func 110) [] [.ptr 7 0]),(47,.val (.string ⟨⟨u⟩⟩))],H:=[.cells q0 136 [.val (.slice none 0 0)],.cells q1 137 [.val (.slice none 0 0)],.cells q2 3 [.val (.int .i64 0)],.cells q3 136 [.own 11 0],.cells q4 137 [.own 12 0],.map gm m,.cells q6 141 [.mp 5],.cells g 9 [.val (.string ⟨⟨t⟩⟩)],.obj D (.deferred (some [])),.obj lno (.loop { rec with state:=.busy }),.own 9 0 1 A ps.length c (psV ps),.own 145 0 7 A1 l.length c1 (lnV l),.own 143 0 2 A2 lb.length c2 (lbV lb)] }) rfl (fun a W rep=>rep.le hF (by (simp only[go_sem,lk,Nat.reduceBEq,reduceLT,reduceAdd] <;> try simp))) ?_
     rw[hnone] at hread
     cases ho:oneL u with
     | none =>
      rw[ho] at hread
      refine zj00 (vs:=[.string ⟨⟨u⟩⟩]) rfl (fun W hW=>parse128 u W (by omega) (hG.keep hW.fresh') (hT.keep hW.fresh') (hLb.keep hW.fresh')) fun v hv=>⟨.tup [.agg (In.sv zeroI),.val (.string ⟨⟨[]⟩⟩),.bf],by rw[hv,ho]; simp only[Is,IsL]; exact⟨_,⟨_,_,In.is _ zeroI,⟨_,_,rfl,⟨_,_,rfl,rfl,rfl⟩,rfl⟩,rfl⟩,rfl⟩,?_⟩
      (refine zj0c hQ' 200 ?_; dsimp only[go_sem,zeroI,In.sv,Nat.reduceBEq,reduceAdd])
      intro gx
      (refine zj1f (by dsimp only[go_sem,Nat.reduceBEq,reduceAdd]; exact⟨rfl,zj06 rfl⟩) ?_; refine zj0c hQ' 200 ?_; dsimp only[go_sem,Nat.reduceBEq])
      exact fun a W rep=>leave hread a W (rep.lq)
     | some xt =>
      obtain⟨x,to⟩:=xt
      rw[ho] at hread
      refine zj00 (vs:=[.string ⟨⟨u⟩⟩]) rfl (fun W hW=>parse128 u W (by omega) (hG.keep hW.fresh') (hT.keep hW.fresh') (hLb.keep hW.fresh')) fun v hv=>⟨.tup [.agg (In.sv x),.val (.string ⟨⟨to⟩⟩),.bt],by rw[hv,ho]; simp only[Is,IsL]; exact⟨_,⟨_,_,In.is _ x,⟨_,_,rfl,⟨_,_,rfl,rfl,rfl⟩,rfl⟩,rfl⟩,rfl⟩,?_⟩
      (refine zj0c hQ' 200 ?_; dsimp only[go_sem,In.sv,Nat.reduceBEq,reduceAdd,Nat.reduceMul])
      refine fun gx=>⟨fun hfull=>?_,fun hroom=>?_⟩
      ·have hfull:1024≤l.length:=by have:=of_decide_eq_true hfull; omega
       (refine zj1f (by dsimp only[go_sem,Nat.reduceBEq,reduceAdd]; exact⟨rfl,zj06 rfl⟩) ?_; refine zj0c hQ' 200 ?_; dsimp only[go_sem,Nat.reduceBEq])
       simp only[if_pos hfull] at hread
       exact fun a W rep=>leave hread a W (rep.lq)
      ·have hroom:¬ 1024≤l.length:=by have:=of_decide_eq_false hroom; omega
       simp only[if_neg hroom] at hread
       refine fun g1=>⟨⟨by simp only[maxLen]; omega,by omega⟩,fun B1 d1=>?_⟩
       have step:G (cxR Tryz.prog K66 T66 lno Q') ⟨w,w.heap.size,[],71,[]⟩ [] { F:=[],H:=[.cells q0 136 [.val (.slice none 0 0)],.cells q1 137 [.val (.slice none 0 0)],.cells q2 3 [.val (.int .i64 0)],.cells q3 136 [.own 11 1],.cells q4 137 [.own 12 0],.map gm m,.cells q6 141 [.mp 5],.cells g 9 [.val (.string ⟨⟨t⟩⟩)],.obj D (.deferred (some [])),.obj lno (.loop { rec with state:=.busy }),.own 9 0 1 A ps.length c (psV ps),.own 145 1 7 B1 (l.length+1) d1 (lnV l++lnC ⟨k+1,x,to⟩),.own 143 0 2 A2 lb.length c2 (lbV lb)] }:=by
        refine zj0s fun a W rep=>hnorm _ rfl (zj05 (by simp[extB,SO.blk,bump])) ?_ [] a W rep
        (refine Y_go 600 ?_; dsimp only[go_sem,Nat.reduceBEq])
        refine⟨((k+1:Nat):Int),ArOk.to (by omega) (by omega) (by omega),zj02 fun a W rep=>again ⟨k+1,l++[⟨k+1,x,to⟩],lb,B1,d1,A2,c2,m⟩ ⟨⟨by show k+1≤_; omega,by show (l++_).length≤1024; simp; omega,by show lb.length≤k+1; omega⟩,hread,hm⟩ (by show ps.length - (k+1) < ps.length - k; omega) a W (rep.res.le (by (simp only[go_sem,lk,Nat.reduceBEq,reduceLT,reduceAdd] <;> try simp)) ?_)⟩
        simp only[lnV_app]
        (simp only[go_sem,lk,Nat.reduceBEq,reduceLT,reduceAdd] <;> try simp)
        simp[lnV]
       exact fun a W rep=>step a W (rep.le (by (simp only[go_sem,lk,Nat.reduceBEq,reduceLT,reduceAdd] <;> try simp)) (by (simp only[go_sem,lk,Nat.reduceBEq,reduceLT,reduceAdd] <;> try simp); rfl))
    refine⟨fun hsf=>?_,fun hsf=>?_⟩
    ·rw[if_pos hsf] at hsd
     rw[hsd]
     have hdl:u.dropLast.length≤400000:=by rw[List.length_dropLast]; omega
     refine zj00 (vs:=[.string ⟨⟨u.dropLast⟩⟩]) rfl (fun W hW=>zj7w u.dropLast W (by omega) (hG.keep hW.fresh') (hT.keep hW.fresh') (hLb.keep hW.fresh')) fun v hv=>⟨.val (.bool (nameB u.dropLast)),by rw[hv]; simp[Is],?_⟩
     (refine zj0c hQ' 200 ?_; dsimp only[go_sem,Nat.reduceBEq,reduceAdd])
     refine⟨fun hnm=>?_,fun hnm=>inst (by rw[told,if_neg (by rw[hnm]; simp)]) _ (by (simp only[go_sem,lk,Nat.reduceBEq,reduceLT,reduceAdd] <;> try simp))⟩
     have hti:toldL u=some u.dropLast:=by rw[told,if_pos ⟨hsf,hnm⟩]
     rw[hti] at hread
     refine⟨hm.1.keys,_,rfl,.val (.int .i64 (if u.dropLast ∈ lb.map (·.1) then 1 else 0)),?_,?_⟩
     ·rw[hm.2]; split <;> rfl
     dsimp only[go_sem,Nat.reduceBEq,reduceAdd,Nat.reduceMul]
     refine⟨fun hin=>?_,fun hout=>?_⟩
     ·have hin:u.dropLast ∈ lb.map (·.1):=by
       have:=of_decide_eq_true hin
       split at this
       ·assumption
       ·omega
      simp only[if_pos hin] at hread
      (refine zj1f (by dsimp only[go_sem,Nat.reduceBEq,reduceAdd]; exact⟨rfl,zj06 rfl⟩) ?_; refine zj0c hQ' 200 ?_; dsimp only[go_sem,Nat.reduceBEq])
      exact fun a W rep=>leave hread a W (rep.lq)
     ·have hout:u.dropLast ∉ lb.map (·.1):=by
       have:=of_decide_eq_false hout
       split at this
       ·omega
       ·assumption
      simp only[if_neg hout] at hread
      refine⟨hm.1.keys,fun g1=>⟨⟨by simp only[maxLen]; omega,by omega⟩,fun B1 d1=>?_⟩⟩
      have step:G (cxR Tryz.prog K66 T66 lno Q') ⟨w,w.heap.size,[],71,[]⟩ [] { F:=[],H:=[.cells q0 136 [.val (.slice none 0 0)],.cells q1 137 [.val (.slice none 0 0)],.cells q2 3 [.val (.int .i64 0)],.cells q3 136 [.own 11 0],.cells q4 137 [.own 12 1],.map gm (mput m (.string ⟨⟨u.dropLast⟩⟩) (.int .i64 1)),.cells q6 141 [.mp 5],.cells g 9 [.val (.string ⟨⟨t⟩⟩)],.obj D (.deferred (some [])),.obj lno (.loop { rec with state:=.busy }),.own 9 0 1 A ps.length c (psV ps),.own 145 0 7 A1 l.length c1 (lnV l),.own 143 1 2 B1 (lb.length+1) d1 (lbV lb++lbC (u.dropLast,l.length))] }:=by
       refine zj0s fun a W rep=>hnorm _ rfl (zj05 (by simp[extB,SO.blk,bump])) ?_ [] a W rep
       (refine Y_go 600 ?_; dsimp only[go_sem,Nat.reduceBEq])
       refine⟨((k+1:Nat):Int),ArOk.to (by omega) (by omega) (by omega),zj02 fun a W rep=>again ⟨k+1,l,lb++[(u.dropLast,l.length)],A1,c1,B1,d1,mput m (.string ⟨⟨u.dropLast⟩⟩) (.int .i64 1)⟩ ⟨⟨by show k+1≤_; omega,hl,by show (lb++_).length≤k+1; simp; omega⟩,hread,?_⟩ (by show ps.length - (k+1) < ps.length - k; omega) a W (rep.res.le (by (simp only[go_sem,lk,Nat.reduceBEq,reduceLT,reduceAdd] <;> try simp)) ?_)⟩
       ·show Holds1 _ ((lb++[(u.dropLast,l.length)]).map (·.1))
        rw[List.map_append]
        exact hm.put _
       ·simp only[lbV_app]
        (simp only[go_sem,lk,Nat.reduceBEq,reduceLT,reduceAdd] <;> try simp)
        simp[lbV]
      exact fun a W rep=>step a W (rep.le (by (simp only[go_sem,lk,Nat.reduceBEq,reduceLT,reduceAdd] <;> try simp)) (by (simp only[go_sem,lk,Nat.reduceBEq,reduceLT,reduceAdd] <;> try simp); rfl))
    ·exact inst (by rw[told,if_neg (by rw[hsf]; simp)]) _ (by (simp only[go_sem,lk,Nat.reduceBEq,reduceLT,reduceAdd] <;> try simp))
  ·refine zj0u (vs:=[]) r110 rfl rfl fun W hW=>?_
   have hil:k=ps.length:=by have:=of_decide_eq_false hge; omega
   subst hil
   refine hend _ _ W ?_ (zj05 ?_) (HeapOk.env (E:=⟨w,w.heap.size,[],30,[]⟩) (E':=⟨w,w.heap.size,[],71,[]⟩) rfl rfl rfl hW) ?_
   ·rfl
   ·simp[extB,SO.blk,bump]
   (refine Y_goM 600 ?_; dsimp only[go_sem,reduceAdd,Nat.reduceBEq])
   (refine zj1f (by dsimp only[go_sem,Nat.reduceBEq,reduceAdd]; exact⟨rfl,zj06 rfl⟩) ?_; refine Y_goM 600 ?_; dsimp only[go_sem,Nat.reduceBEq])
   have hr:readL (linesF (ps.drop ps.length) (ps.length+1)) l lb=(l,lb,0):=by rw[List.drop_length]; rfl
   refine ret_rvm (vs:=[.slice A1 l.length c1,.slice A2 lb.length c2,.int .i64 0]) 8 r66 rfl rfl rfl fun W hW=>?_
   exact ends (l,lb,0) 0 0 W (hr.symm.trans hread) A1 A2 c1 c2 _ rfl rfl (HeapOk.env (E:=⟨w,w.heap.size,[],71,[D]⟩) (E':=⟨w,w.heap.size,[],71,[D]⟩) rfl rfl rfl hW)
end Go.Proofs.YtgghmmjoplddbaaGreatDoor
