/- The lines of a text, one by one; all labels' names: asm.lines, asm.all. -/
import Derived.Test.YtgghmmjoplddbaaGreatDoorZAsW1
set_option linter.unusedSimpArgs false
set_option linter.unusedVariables false
set_option linter.unnecessarySimpa false
namespace Go.Proofs.YtgghmmjoplddbaaGreatDoor
open Go Go.Sx Go.Isa Go.Asm
open Nat (reduceAdd reduceLT)
set_option maxRecDepth 100000
theorem lines125 (t:B) (w:World):CallsV Tryz.prog 92 [.string ⟨⟨t⟩⟩] w fun v w'=>∃ g,v=.func (.func 110) #[] #[.pointer (some ⟨g,0,none⟩)]∧(w.heap.size≤g∧g < w'.heap.size)∧w'.heap[g]? = some (.cells #[.string ⟨⟨t⟩⟩] 9 (0,0))∧Fresh w w':=by
 refine zj03 (keep:=K92) (nt:=4) (svs:=[.val (.string ⟨⟨t⟩⟩)]) Tryz.func92 x92 n92 (by simp) (by simp[IsL,Is]) fun R hR=>?_
 (refine Y_go 600 ?_; dsimp only[go_sem,reduceAdd,Nat.reduceBEq])
 intro g
 refine zj01 (vs:=[.func (.func 110) #[] #[.pointer (some ⟨g,0,none⟩)]]) r92 rfl rfl fun W hW=>hR _ _ ⟨g,rfl,?_,?_,hW.fresh'⟩
 ·have:=hW.fresh 0 _ g rfl rfl
  simp only[Env.old,List.not_mem_nil,not_false_eq_true,and_true,Nat.not_lt] at this
  omega
 ·obtain⟨cc,hc,hL⟩:=hW.ents 0 _ rfl
  simp only[IsL,Is] at hL
  obtain⟨v,r,rfl,rfl,e⟩:=hL
  have:cc=#[.string ⟨⟨t⟩⟩]:=by rw[← Array.toList_inj]; simpa using e
  rw[this] at hc; exact hc
def psV (l:List B):List Value:=l.map fun s=>.string ⟨⟨s⟩⟩
theorem zj30:∀ (s acc:B),(pieces acc s).length≤s.length+1
 | [],acc=>by simp[pieces]
 | c :: s,acc=>by
  unfold pieces
  split
  ·have:=zj30 s []; simp; omega
  ·have:=zj30 s (acc++[c]); simp; omega
theorem splitC (t:B) (w:World) (ht:t.length≤1000000) (hL:LibAt w):CallsV Tryz.prog 111 [.string ⟨⟨t⟩⟩,.string ⟨⟨[10]⟩⟩] w fun v w'=>World.ownsB w' w.heap.size 9 1 v (pieces [] t).length (psV (pieces [] t))∧Fresh w w':=by
 refine (splitN ⟨⟨t⟩⟩ w (by rw[zj09]; exact ht) hL).mono fun v w' h=>?_
 have e:Lib.splitB ⟨⟨[10]⟩⟩ 0 (Lib.countB ⟨⟨t⟩⟩ ⟨⟨[10]⟩⟩) ⟨⟨t⟩⟩=(pieces [] t).map fun p=>⟨⟨p⟩⟩:=Go.Nl.split_lines t
 have hn:Lib.countB ⟨⟨t⟩⟩ ⟨⟨[10]⟩⟩+1=(pieces [] t).length:=by
  have:=Lib.splitB_all ⟨⟨[10]⟩⟩ (by decide) 0 _ ⟨⟨t⟩⟩ rfl
  rw[e,List.length_map] at this
  exact this.symm
 rw[e,List.map_map,hn] at h
 exact h
structure A129 where
 k:Nat
 m:List (Value × Value)
def Holds1 (m:List (Value × Value)) (l:List B):Prop:=StOk m∧∀ nm:B,mget m (.string ⟨⟨nm⟩⟩)=if nm ∈ l then some (.int .i64 1) else none
theorem Holds1.nil:Holds1 [] []:=⟨StOk.nil,fun nm=>by simp[mget]⟩
theorem Holds1.put {m:List (Value × Value)} {l:List B} (h:Holds1 m l) (s:B):Holds1 (mput m (.string ⟨⟨s⟩⟩) (.int .i64 1)) (l++[s]) :=
 ⟨h.1.put _ _,fun nm=>by
  rw[sget_sput h.1,h.2 nm]
  by_cases e:nm=s
  ·subst e; simp
  ·have e':¬ (⟨⟨nm⟩⟩:ByteArray)=⟨⟨s⟩⟩:=fun h=>e (by rw[ba_inj] at h; exact h)
   rw[if_neg e']; simp[e]⟩
theorem all129 (t:B) (w:World) (ht:t.length≤400000) (hG:ShAt w) (hT:TabAt w) (hLb:LibAt w) :
  CallsV Tryz.prog 96 [.string ⟨⟨t⟩⟩] w fun v w'=>∃ g l,v=.map (some g)∧w.heap.size≤g∧EntryOk [] (fun j=>w'.heap[j]?) (.map g l)∧Holds1 l (allN (linesL t))∧Fresh w w':=by
 refine zj3j (keep:=K96) (nt:=26) (svs:=[.val (.string ⟨⟨t⟩⟩)]) Tryz.func96 x96 n96 (by simp) (by simp[IsL,Is]) fun R hR=>?_
 (refine Y_goM 600 ?_; dsimp only[go_sem,reduceAdd,Nat.reduceBEq])
 intro gm g3
 refine zj0b (vs:=[.string ⟨⟨t⟩⟩]) rfl (R:=fun W v W'=>∃ g,v=.func (.func 110) #[] #[.pointer (some ⟨g,0,none⟩)]∧(W.heap.size≤g∧g < W'.heap.size)∧W'.heap[g]? = some (.cells #[.string ⟨⟨t⟩⟩] 9 (0,0))∧Fresh W W') (fun W hW=>lines125 t W) fun W v W' hW ⟨g,hv,hg,hgc,hf⟩=>?_
 refine⟨.fn (.func 110) [] [.ptr 2 0],[.map gm [],.cells g3 141 [.mp 0],.cells g 9 [.val (.string ⟨⟨t⟩⟩)]],?_,?_,?_,?_⟩
 ·rw[hv]; simp[Is,IsL,blk,nth]
 ·exact HExt.push _ _
 ·refine hW.pushG (row:=none) hf.size hf.os hf.tape hf.output (fun j hj _=>hf.block j hj) (fun _ e=>by cases e) (fun g' hg'=>?_) ⟨_,hgc,by simp[IsL,Is]⟩
  simp[SO.fp] at hg'; subst hg'
  exact⟨.inr hg.1,hg.2⟩
 clear hgc hf hv hW
 (refine Y_goM 600 ?_; dsimp only[go_sem,Nat.reduceBEq])
 refine zj34 rfl rfl (gf:=110) (caps:=[.pointer (some ⟨g,0,none⟩)]) rfl rfl ?_
 intro D lno rec hrec R' hend hjump W1 hW1
 refine zj2k (keep:=K110) (nt:=30) (E:=⟨w,w.heap.size,[],26,[]⟩) (svs:=[.val (.func (.yield lno) #[] #[]),.ptr 2 0]) Tryz.func110 x110 n110 (by simp) hW1 (by simp[IsL,Is,blk,nth]) ?_
 (refine Y_go 600 ?_; dsimp only[go_sem,reduceAdd])
 refine zj36 (fun _ _ _ h=>h) ?_
 (refine Y_go 600 ?_; dsimp only[go_sem,Nat.reduceBEq,reduceAdd])
 refine zj1d (vs:=[.string ⟨⟨t⟩⟩,.string ⟨⟨[10]⟩⟩]) rfl (fun W hW=>splitC t W (by omega) (hLb.keep hW.fresh')) fun A c=>?_
 (refine Y_go 600 ?_; dsimp only[go_sem,reduceAdd,Nat.reduceBEq])
 have hpl:=zj30 t []
 have hpp:∀ p ∈ pieces [] t,p.length≤t.length:=fun p hp=>by simpa using zj1u t [] p hp
 have hall:allN (linesL t)=(pieces [] t).filterMap toldP:=zj4o _ _
 generalize pieces [] t=ps at hpl hpp hall ⊢
 refine zj08 (α:=A129) (fun x=>x.k≤ps.length∧Holds1 x.m ((ps.take x.k).filterMap toldP)) (fun _=>⟨w,w.heap.size,[],30,[]⟩)
  (fun x=>{ F:=[(0,.val (.func (.yield lno) #[] #[])),(1,.ptr 2 0),(6,.own 5 0),(7,.val (.int .i64 ps.length)),(8,.val (.int .i64 (x.k:Int)))],H:=[.map gm x.m,.cells g3 141 [.mp 0],.cells g 9 [.val (.string ⟨⟨t⟩⟩)],.obj D (.deferred (some [])),.obj lno (.loop rec),.own 9 0 1 A ps.length c (psV ps)] }) (fun x=>ps.length - x.k) (fun _=>rfl) ?start ?round
 case start =>
  intro a W rep
  exact⟨⟨0,[]⟩,⟨Nat.zero_le _,Holds1.nil⟩,rep.lq⟩
 case round =>
  rintro ⟨k,m⟩ ⟨hk,hm⟩ I again
  have hk:k≤ps.length:=hk
  have hm:Holds1 m ((ps.take k).filterMap toldP):=hm
  (refine Y_go 600 ?_; dsimp only[go_sem,Nat.reduceBEq])
  refine⟨fun hlt=>?_,fun hge=>?_⟩
  ·have hlt:k < ps.length:=by have:=of_decide_eq_true hlt; omega
   have hx:ps[k]? = some ps[k]:=List.getElem?_eq_getElem hlt
   have hpx:=hpp _ (List.getElem_mem hlt)
   have htk:(ps.take (k+1)).filterMap toldP=(ps.take k).filterMap toldP++(match toldP ps[k] with | some s=>[s] | none=>[]):=by
    rw[List.take_add_one,hx,List.filterMap_append]
    simp only[Option.toList,List.filterMap_cons,List.filterMap_nil]
    cases toldP ps[k] <;> rfl
   generalize ps[k]=p at hx hpx htk
   have hk1:((k:Nat):Int).toNat=k:=by omega
   have hget:(psV ps)[k*1]? = some (.string ⟨⟨p⟩⟩):=by rw[Nat.mul_one]; unfold psV; rw[List.getElem?_map,hx]; rfl
   rw[hk1]
   have hcl:=zj67 p
   have htl:=trim_len p
   have hcut:=cut_rem p
   refine⟨⟨by omega,by omega⟩,_,hget,?_⟩
   refine zj00 (vs:=[.string ⟨⟨p⟩⟩,.string ⟨⟨[59]⟩⟩]) rfl (fun W hW=>cutC p [59] W (by omega) (hLb.keep hW.fresh')) fun v hv=>⟨.tup [.val (.string ⟨⟨cutRem p⟩⟩),.val (.string ⟨⟨(Lib.cut p [59]).2.1⟩⟩),.val (.bool (Lib.cut p [59]).2.2)],by rw[hv,hcut]; simp[Is,IsL],?_⟩
   (refine Y_go 600 ?_; dsimp only[go_sem,Nat.reduceBEq])
   refine zj00 (vs:=[.string ⟨⟨cutRem p⟩⟩,.string ⟨⟨[32,9]⟩⟩]) rfl (fun W hW=>trimC (cutRem p) W (by omega)) fun v hv=>⟨.val (.string ⟨⟨trimBl (cutRem p)⟩⟩),by rw[hv]; simp[Is],?_⟩
   have htold:toldP p=(match trimBl (cutRem p) with | []=>none | c :: r=>toldL (c :: r)):=rfl
   generalize trimBl (cutRem p)=u at htl htold
   (refine Y_go 600 ?_; dsimp only[go_sem,Nat.reduceBEq])
   have next:∀ (m':List (Value × Value)) F,Holds1 m' ((ps.take (k+1)).filterMap toldP)→leF 6 F [(0,.val (.func (.yield lno) #[] #[])),(1,.ptr 2 0),(6,.own 5 0),(7,.val (.int .i64 ps.length)),(8,.val (.int .i64 ((k+1:Nat):Int)))]→∀ r,G (cxOf Tryz.prog Tryz.f110 K110 T110 R') ⟨w,w.heap.size,[],30,[]⟩ [.lend I,.blk 0] { F:=F,H:=[.map gm m',.cells g3 141 [.mp 0],.cells g 9 [.val (.string ⟨⟨t⟩⟩)],.obj D (.deferred (some [])),.obj lno (.loop rec),.own 9 0 1 A ps.length c (psV ps)]++r }:=fun m' F hm' hF r =>
    zj02 fun a W rep=>again ⟨k+1,m'⟩ ⟨by show k+1≤_; omega,hm'⟩ (by show ps.length - (k+1) < ps.length - k; omega) a W (rep.le hF (by (simp only[go_sem,lk,Nat.reduceBEq,reduceLT,reduceAdd] <;> try simp)))
   refine⟨fun hnil=>?_,fun hne=>?_⟩
   ·have hnil:decide (u=[])=true:=(strEq u []).symm.trans hnil
    have hnil:=of_decide_eq_true hnil
    subst hnil
    have:Holds1 m ((ps.take (k+1)).filterMap toldP):=by rw[htk,htold]; simpa using hm
    exact⟨((k+1:Nat):Int),ArOk.to (by omega) (by omega) (by omega),next m _ this (by (simp only[go_sem,lk,Nat.reduceBEq,reduceLT,reduceAdd] <;> try simp)) []⟩
   ·have hne:decide (u=[])=false:=(strEq u []).symm.trans hne
    have hne:=of_decide_eq_false hne
    have htold:toldP p=toldL u:=by
     rw[htold]
     cases u with
     | nil=>exact absurd rfl hne
     | cons c r=>rfl
    refine⟨((k+1:Nat):Int),ArOk.to (by omega) (by omega) (by omega),?_⟩
    refine zj0x (C':=cxOf Tryz.prog Tryz.f110 K110 T110 R') (E:=⟨w,w.heap.size,[],26,[]⟩) (i:=4) (rec:=rec) (lno:=lno) (keep:=K96) ?_ ?_ ?_ hrec ?_ ?_ ?_ ?_ ?_ ?_
    ·rfl
    ·rfl
    ·rfl
    ·simp
    ·rfl
    ·rfl
    ·rfl
    ·exact zj05 (by simp[extB,SO.blk,bump])
    intro J Q' hQ' hbeg hnorm hjmp
    have hF:zj0e (fun _ _ _=>False):=fun _ _ _ h=>h
    (refine zj0c hF 100 ?_; dsimp only[go_sem,Nat.reduceBEq,setPs])
    refine zj02 fun a W rep=>hbeg _ _ rfl ?_ a W rep
    (refine zj0c hQ' 100 ?_; dsimp only[go_sem,Nat.reduceBEq])
    have fin:∀ (m':List (Value × Value)) F,Holds1 m' ((ps.take (k+1)).filterMap toldP)→G (cxR Tryz.prog K96 T96 lno Q') ⟨w,w.heap.size,[],26,[]⟩ [] { F:=F,H:=[.map gm m',.cells g3 141 [.mp 0],.cells g 9 [.val (.string ⟨⟨t⟩⟩)],.obj D (.deferred (some [])),.obj lno (.loop { rec with state:=.busy }),.own 9 0 1 A ps.length c (psV ps)] }:=by
     intro m' F hm'
     refine zj0s fun a W rep=>hnorm _ rfl (zj05 (by simp[extB,SO.blk,bump])) ?_ F a W rep
     (refine Y_go 600 ?_; dsimp only[go_sem,Nat.reduceBEq])
     exact⟨((k+1:Nat):Int),ArOk.to (by omega) (by omega) (by omega),next m' _ hm' (by (simp only[go_sem,lk,Nat.reduceBEq,reduceLT,reduceAdd] <;> try simp)) []⟩
    have same:toldL u=none→Holds1 m ((ps.take (k+1)).filterMap toldP):=fun h=>by rw[htk,htold,h]; simpa using hm
    have told:toldL u=(if Lib.hasSuffix u [58]=true∧nameB u.dropLast=true then some u.dropLast else none):=rfl
    have hsd:=suf_dot u 58
    refine zj00 (vs:=[.string ⟨⟨u⟩⟩,.string ⟨⟨[58]⟩⟩]) rfl (fun W hW=>sufC u [58] W (by omega)) fun v hv=>⟨.tup [.val (.string ⟨⟨Lib.trimSuffix u [58]⟩⟩),.val (.bool (Lib.hasSuffix u [58]))],by rw[hv]; simp[Is,IsL],?_⟩
    (refine zj0c hQ' 100 ?_; dsimp only[go_sem,Nat.reduceBEq])
    refine⟨fun hsf=>?_,fun hsf=>?_⟩
    ·rw[if_pos hsf] at hsd
     rw[hsd]
     have hdl:u.dropLast.length≤400000:=by rw[List.length_dropLast]; omega
     refine zj00 (vs:=[.string ⟨⟨u.dropLast⟩⟩]) rfl (fun W hW=>zj7w u.dropLast W (by omega) (hG.keep hW.fresh') (hT.keep hW.fresh') (hLb.keep hW.fresh')) fun v hv=>⟨.val (.bool (nameB u.dropLast)),by rw[hv]; simp[Is],?_⟩
     (refine zj0c hQ' 100 ?_; dsimp only[go_sem,Nat.reduceBEq,reduceAdd])
     refine⟨fun hnm=>⟨hm.1.keys,fin _ _ ?_⟩,fun hnm=>fin _ _ (same (by rw[told,if_neg (by rw[hnm]; simp)]))⟩
     rw[htk,htold,told,if_pos ⟨hsf,hnm⟩]
     exact hm.put _
    ·exact fin _ _ (same (by rw[told,if_neg (by rw[hsf]; simp)]))
  ·refine zj0u (vs:=[]) r110 rfl rfl fun W hW=>?_
   have hil:k=ps.length:=by have:=of_decide_eq_false hge; omega
   subst hil
   rw[List.take_length,← hall] at hm
   refine hend _ _ W ?_ (zj05 ?_) (HeapOk.env (E:=⟨w,w.heap.size,[],30,[]⟩) (E':=⟨w,w.heap.size,[],26,[]⟩) rfl rfl rfl hW) ?_
   ·rfl
   ·simp[extB,SO.blk,bump]
   (refine Y_goM 600 ?_; dsimp only[go_sem,reduceAdd,Nat.reduceBEq])
   refine zj58 (vs:=[.map (some gm)]) 3 r96 rfl rfl rfl fun W hW=>hR _ _ ⟨gm,m,rfl,?_,?_,hm,hW.fresh'⟩
   ·have:=hW.fresh 0 _ gm rfl rfl
    simp only[Env.old,List.not_mem_nil,not_false_eq_true,and_true,Nat.not_lt] at this
    omega
   ·exact hW.ents 0 _ rfl
end Go.Proofs.YtgghmmjoplddbaaGreatDoor
