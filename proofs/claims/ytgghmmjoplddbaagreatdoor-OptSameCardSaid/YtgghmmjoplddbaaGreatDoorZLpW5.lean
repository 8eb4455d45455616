/- lint: all ways from a spot, walked in place. -/
import Derived.Test.YtgghmmjoplddbaaGreatDoorZLpW1
set_option linter.unusedSimpArgs false
set_option linter.unusedVariables false
set_option linter.unnecessarySimpa false
namespace Go.Proofs.YtgghmmjoplddbaaGreatDoor
open Go Go.Sx Go.Isa Go.Lint
open Nat (reduceAdd reduceLT)
set_option maxRecDepth 100000
abbrev H0 (w:WG) (st:St) (q:WV):List SO:=lkE w.gm w.gl w.B w.bn w.bc st.met q.k q.Af st.fs.length q.cf (fsV st.fs)++[.cells w.gb 61 [.ptr 1 0],.gone w.g4,.cells w.gt 98 [.own 6 q.v],.own 68 q.v 2 q.At st.todo.length q.ct (spotsV st.todo),.cells w.ga 68 [.val (.int .i64 w.s.1),.val (.bool w.s.2)],.cells w.gx 47 (In.sv w.x),.cells w.gs 5 [.val (.int .u8 w.set.toNat)],.cells w.g1 68 [.val (.int .i64 w.s.1),.val (.bool w.s.2)],.cells w.g2 47 (In.sv w.x),.cells w.g3 61 [.val (.pointer (some ⟨w.gl,0,none⟩))]]
def goSt (w:WG) (st:St):St:=(nxt w.x w.s).foldl (meet w.bn w.set w.s.1) ⟨st.met,st.todo,st.fs++(fnd w.x w.s).map (·,w.s.1)⟩
structure Since (st:St) (q:WV) (st1:St) (q1:WV):Prop where
 k:(q1.k=q.k∧q1.Af=q.Af∧q1.cf=q.cf∧st1.fs=st.fs)∨q.k < q1.k
 v:(q1.v=q.v∧q1.At=q.At∧q1.ct=q.ct∧st1.todo=st.todo)∨q.v < q1.v
theorem Since.refl (st:St) (q:WV):Since st q st q:=⟨.inl ⟨rfl,rfl,rfl,rfl⟩,.inl ⟨rfl,rfl,rfl,rfl⟩⟩
theorem Since.step {st st1 st2:St} {q q1 q2:WV} (h:Since st q st1 q1) (hle:q1.le q2) (hk:q2.k=q1.k→q2.Af=q1.Af∧q2.cf=q1.cf∧st2.fs=st1.fs) (hv:q2.v=q1.v→q2.At=q1.At∧q2.ct=q1.ct∧st2.todo=st1.todo):Since st q st2 q2:=by
 obtain⟨h1,h2⟩:=h
 obtain⟨l0,_,l2,_⟩:=hle
 constructor
 ·rcases h1 with⟨a,b,c,d⟩ | h1
  ·rcases Nat.lt_or_ge q1.k q2.k with hlt | hge
   ·exact .inr (by omega)
   ·obtain⟨e1,e2,e3⟩:=hk (by omega)
    exact .inl ⟨by omega,e1.trans b,e2.trans c,e3.trans d⟩
  ·exact .inr (by omega)
 ·rcases h2 with⟨a,b,c,d⟩ | h2
  ·rcases Nat.lt_or_ge q1.v q2.v with hlt | hge
   ·exact .inr (by omega)
   ·obtain⟨e1,e2,e3⟩:=hv (by omega)
    exact .inl ⟨by omega,e1.trans b,e2.trans c,e3.trans d⟩
  ·exact .inr (by omega)
theorem h0_ext (w:WG) (st st1:St) (q q1:WV) (o:Obj) (gn:Nat) (nn:Spot) (h:Since st q st1 q1):HExt (H0 w st q) (HS w st1 q1 o gn nn):=by
 refine zj05 ⟨.inl ⟨_,rfl,rfl⟩,.inl ⟨_,rfl,rfl⟩,zj3a ?_,.inl ⟨_,rfl,rfl⟩,.inl ⟨_,rfl,rfl⟩,.inl ⟨_,rfl,rfl⟩,zj3a ?_,.inl ⟨_,rfl,rfl⟩,.inl ⟨_,rfl,rfl⟩,.inl ⟨_,rfl,rfl⟩,.inl ⟨_,rfl,rfl⟩,.inl ⟨_,rfl,rfl⟩,.inl ⟨_,rfl,rfl⟩,trivial⟩
 ·exact h.k.imp (fun⟨a,b,c,d⟩=>⟨a,b,by rw[d],c,by rw[d]⟩) id
 ·exact h.v.imp (fun⟨a,b,c,d⟩=>⟨a,b,by rw[d],c,by rw[d]⟩) id
section
variable {R':Value→World→Prop} {b:World} {N:Nat} {stl:List Nat} {mk:List Nat} (w:WG) (st:St) (q:WV) (rec:Loop)
 (hend:∀ q':WV,(q'.k=q.k→q'.Af=q.Af∧q'.cf=q.cf∧(goSt w st).fs=st.fs)→(q'.v=q.v→q'.At=q.At∧q'.ct=q.ct∧(goSt w st).todo=st.todo)→∀ (r:List SO) W3,HeapOk ⟨b,N,stl,108,mk⟩ (lkE w.gm w.gl w.B w.bn w.bc (goSt w st).met q'.k q'.Af (goSt w st).fs.length q'.cf (fsV (goSt w st).fs)++(HM w (goSt w st) q' (.loop rec)++r)) W3→R' (.tuple #[]) W3)
include hend
theorem it_heap (q1:WV) (gn:Nat) (nn:Spot) (hs:Since st q (goSt w st) q1) (W:World) (hW:HeapOk ⟨b,N,stl,95,[]⟩ (HS w (goSt w st) q1 (.loop rec) gn nn) W):R' (.tuple #[]) W:=by
 refine hend q1 (fun e=>?_) (fun e=>?_) [.cells gn 68 [.val (.int .i64 nn.1),.val (.bool nn.2)]] W (HeapOk.env (E:=⟨b,N,stl,95,[]⟩) (E':=⟨b,N,stl,108,mk⟩) rfl rfl rfl hW)
 ·rcases hs.k with⟨_,h1,h2,h3⟩ | h
  ·exact⟨h1,h2,h3⟩
  ·omega
 ·rcases hs.v with⟨_,h1,h2,h3⟩ | h
  ·exact⟨h1,h2,h3⟩
  ·omega
theorem it_ret (q1:WV) (gn:Nat) (nn:Spot) (hs:Since st q (goSt w st) q1) (F:List (Nat × SV)):RetG (cxOf Tryz.prog Tryz.f69 K69 T69 R') ⟨b,N,stl,95,[]⟩ { F:=F,H:=HS w (goSt w st) q1 (.loop rec) gn nn } :=
 zj01 (vs:=[]) r69 rfl rfl fun W hW=>it_heap w st q rec hend q1 gn nn hs W hW
theorem zj1a (hrg1:∀ n ∈ nxt w.x w.s,0≤n.1∧n.1≤1024) (hst:rec.state=.ready) (hrec:RecOk Tryz.prog 108 T19 { F:=walkF,H:=H0 w st q } [59] asX (.ref 8) rec) (st1:St) (q1:WV) (gn:Nat) (nn n:Spot) (hs:Since st q st1 q1) (hn:0≤n.1∧n.1≤1024) (hrg:Rg st1.met) (hfs:st1.fs.length≤100000000) (htd:st1.todo.length≤100000000) (hv:q1.v=0∨q1.v=1)
  (hgo:meet w.bn w.set w.s.1 st1 n=goSt w st) (F:List (Nat × SV)) (h92:lk F 92=YI w) (h93:lk F 93=.agg [.val (.int .i64 n.1),.val (.bool n.2)]) (d:Option Nat) :
  G (cxOf Tryz.prog Tryz.f69 K69 T69 R') ⟨b,N,stl,95,[]⟩ [.ops [{ dst:=d,guard:=none,i:=.callv (.tmp 92) [.tmp 93] }]] { F:=F,H:=HS w st1 q1 (.loop rec) gn nn }:=by
 refine round39 (mk:=mk) (F'':=[]) w st1 n q1 rec gn nn { F:=walkF,H:=H0 w st q } hn hrg hfs htd hv hst hrec rfl (h0_ext w st st1 q q1 _ gn nn hs) ?_ rfl ?_ ?_ fun q2 hle hk2 hv2=>zj0z ?_
 ·show den _ (lk F 92)=_
  rw[h92]; rfl
 ·show [lk F 93]=_
  rw[h93]
 ·(simp only[go_sem,lk,Nat.reduceBEq,reduceLT,reduceAdd] <;> try simp)
 ·rw[hgo] at hk2 hv2 ⊢
  exact zj0u (vs:=[]) r69 rfl rfl fun W hW=>it_heap w st q rec hend q2 gn nn (hs.step hle hk2 hv2) W hW
end
theorem iter103 {R':Value→World→Prop} {b:World} {N:Nat} {stl:List Nat} {mk:List Nat} (w:WG) (st:St) (q:WV) (rec:Loop) (W1:World)
  (hs0:0≤w.s.1∧w.s.1 < 1024) (hrgn0:∀ n ∈ nxt w.x w.s,0≤n.1∧n.1≤1024) (hrg:Rg st.met) (hfs:st.fs.length≤50000000) (htd:st.todo.length≤50000000) (hk0:q.k=0) (hv0:q.v=0)
  (hrec:RecOk Tryz.prog 108 T19 { F:=walkF,H:=H0 w st q } [59] asX (.ref 8) rec)
  (hend:∀ q':WV,(q'.k=q.k→q'.Af=q.Af∧q'.cf=q.cf∧(goSt w st).fs=st.fs)→(q'.v=q.v→q'.At=q.At∧q'.ct=q.ct∧(goSt w st).todo=st.todo)→∀ (r:List SO) W3,HeapOk ⟨b,N,stl,108,mk⟩ (lkE w.gm w.gl w.B w.bn w.bc (goSt w st).met q'.k q'.Af (goSt w st).fs.length q'.cf (fsV (goSt w st).fs)++(HM w (goSt w st) q' (.loop rec)++r)) W3→R' (.tuple #[]) W3)
  (hW1:HeapOk ⟨b,N,stl,108,mk⟩ (lkE w.gm w.gl w.B w.bn w.bc st.met q.k q.Af st.fs.length q.cf (fsV st.fs)++HM w st q (.loop rec)) W1) :
  CallsV Tryz.prog 69 [.func (.yield w.lno) #[] #[],.pointer (some ⟨w.g1,0,none⟩),.pointer (some ⟨w.g2,0,none⟩),.pointer (some ⟨w.g3,0,none⟩)] W1 R':=by
 refine zj2k (keep:=K69) (nt:=95) (E:=⟨b,N,stl,108,mk⟩) (svs:=[YI w,.ptr 10 0,.ptr 11 0,.ptr 12 0]) Tryz.func69 x69 n69 (by simp) hW1 (by simp[IsL,Is,blk,nth]) ?_
 (refine Y_go 600 ?_; dsimp only[go_sem,YI,reduceAdd,lkE,HM,In.sv,Nat.reduceBEq])
 refine⟨_,.to rfl (by omega) (by omega),fun gn=>?_⟩
 have hst:rec.state=.ready:=hrec.state
 have hv:q.v=0∨q.v=1:=.inl hv0
 have h1s:0≤w.s.1+1∧w.s.1+1≤1024:=by omega
 have nil:∀ (c:Int),fnd w.x w.s=[c]→nxt w.x w.s=[]→goSt w st=⟨st.met,st.todo,st.fs++[(c,w.s.1)]⟩:=fun c h1 h2=>by simp[goSt,h1,h2]
 -- something is found,and nothing goes on
 have fndR:∀ (c:Int),fnd w.x w.s=[c]→nxt w.x w.s=[]→∀ A' c' (nn:Spot) F,RetG (cxOf Tryz.prog Tryz.f69 K69 T69 R') ⟨b,N,stl,95,[]⟩ { F:=F,H:=lkE w.gm w.gl w.B w.bn w.bc st.met (q.k+1) A' (st.fs.length+1) c' (fsV st.fs++[.int .i64 c,.int .i64 w.s.1])++(HM w st q (.loop rec)++[.cells gn 68 [.val (.int .i64 nn.1),.val (.bool nn.2)]]) }:=by
  intro c h1 h2 A' c' nn F
  have hgo:=nil c h1 h2
  have e1:fsV st.fs++[Value.int .i64 c,.int .i64 w.s.1]=fsV (st.fs++[(c,w.s.1)]):=by rw[zj40]; rfl
  have e2:st.fs.length+1=(st.fs++[(c,w.s.1)]).length:=by simp
  rw[e1,e2]
  have:=it_ret (b:=b) (N:=N) (stl:=stl) (mk:=mk) w st q rec hend { q with k:=q.k+1,Af:=A',cf:=c' } gn nn ⟨.inr (by show q.k < q.k+1; omega),.inl ⟨rfl,rfl,rfl,by rw[hgo]⟩⟩ F
  rw[hgo] at this
  exact this
 have hrgn:∀ n ∈ nxt w.x w.s,0≤n.1∧n.1≤1024:=hrgn0
 have bad:(w.x.imm < 0∨1024 < w.x.imm)→13≤w.x.op→w.x.op≤16→∀ A' c' F,leF 16 F [(0,YI w),(2,.ptr 11 0),(5,.ptr 15 0)]→G (cxOf Tryz.prog Tryz.f69 K69 T69 R') ⟨b,N,stl,95,[]⟩ [.code (.ref 7),.blk 0,.code (.ref 13)] { F:=F,H:=lkE w.gm w.gl w.B w.bn w.bc st.met (q.k+1) A' (st.fs.length+1) c' (fsV st.fs++[.int .i64 6,.int .i64 w.s.1])++(HM w st q (.loop rec)++[.cells gn 68 [.val (.int .i64 (w.s.1+1)),.val (.bool w.s.2)]]) }:=by
  intro hb h13 h16 A' c' F hF
  have e1:fsV st.fs++[Value.int .i64 6,.int .i64 w.s.1]=fsV (st.fs++[(6,w.s.1)]):=by rw[zj40]; rfl
  have e2:st.fs.length+1=(st.fs++[(6,w.s.1)]).length:=by simp
  rw[e1,e2]
  have hfn:fnd w.x w.s=[6]:=by unfold fnd; rw[if_neg (by omega),if_neg (by omega),if_neg (by omega),if_neg (by omega),if_pos ⟨h13,h16,hb⟩]
  have hnx:nxt w.x w.s=if w.x.op=13 then [] else [(w.s.1+1,w.s.2)]:=by unfold nxt; rw[if_neg (by omega),if_neg (by omega),if_neg (by omega),if_neg (by omega),if_pos ⟨h13,h16⟩,if_pos hb]; rfl
  have sn:Since st q ⟨st.met,st.todo,st.fs++[(6,w.s.1)]⟩ { q with k:=q.k+1,Af:=A',cf:=c' }:=⟨.inr (by show q.k < q.k+1; omega),.inl ⟨rfl,rfl,rfl,rfl⟩⟩
  refine G.le (E':=⟨b,N,stl,95,[]⟩) (s':={ F:=[(0,YI w),(2,.ptr 11 0),(5,.ptr 15 0)],H:=HS w ⟨st.met,st.todo,st.fs++[(6,w.s.1)]⟩ { q with k:=q.k+1,Af:=A',cf:=c' } (.loop rec) gn (w.s.1+1,w.s.2) }) rfl (fun a W rep=>rep.le hF (by (simp only[go_sem,lk,Nat.reduceBEq,reduceLT,reduceAdd] <;> try simp); exact rfl)) ?_
  (refine Y_go 600 ?_; dsimp only[go_sem,YI,HM,In.sv,Nat.reduceBEq,reduceAdd])
  refine⟨fun h=>?_,fun h=>?_⟩
  ·have h:w.x.op=13:=by simpa using h
   have hgo:goSt w st=⟨st.met,st.todo,st.fs++[(6,w.s.1)]⟩:=by simp[goSt,hfn,hnx,h]
   have:=it_ret (b:=b) (N:=N) (stl:=stl) (mk:=mk) w st q rec hend { q with k:=q.k+1,Af:=A',cf:=c' } gn (w.s.1+1,w.s.2) (by rw[hgo]; exact sn)
   rw[hgo] at this
   exact this _
  ·have h:w.x.op ≠ 13:=by simpa using h
   have hgo:meet w.bn w.set w.s.1 ⟨st.met,st.todo,st.fs++[(6,w.s.1)]⟩ (w.s.1+1,w.s.2)=goSt w st:=by simp[goSt,hfn,hnx,h]
   exact zj1a (b:=b) (N:=N) (stl:=stl) (mk:=mk) w st q rec hend hrgn hst hrec _ _ gn (w.s.1+1,w.s.2) (w.s.1+1,w.s.2) sn h1s hrg (by simp; omega) (by show st.todo.length≤_; omega) hv hgo _ rfl rfl _
 have jump:0≤w.x.imm→w.x.imm≤1024→13≤w.x.op→w.x.op≤16→∀ F,lk F 81=YI w→lk F 86=.agg [.val (.int .i64 w.x.imm),.val (.bool w.s.2)]→leF 16 ((87,.bt) :: F) [(87,.bt),(0,YI w),(2,.ptr 11 0),(5,.ptr 15 0)] →
   G (cxOf Tryz.prog Tryz.f69 K69 T69 R') ⟨b,N,stl,95,[]⟩ [.ops [{ dst:=some 87,guard:=none,i:=.callv (.tmp 81) [.tmp 86] },{ dst:=some 88,guard:=none,i:=.k (.not (.tmp 87)) }],.code (.cond (.tmp 88) .ret .skip),.code (.ref 7),.blk 0,.code (.ref 13)] { F:=F,H:=HS w st q (.loop rec) gn (w.s.1+1,w.s.2) }:=by
  intro hi0 hi1 h13 h16 F h81 h86 hF
  have hfn:fnd w.x w.s=[]:=by unfold fnd; rw[if_neg (by omega),if_neg (by omega),if_neg (by omega),if_neg (by omega),if_neg (by omega)]
  have hnx:nxt w.x w.s=(w.x.imm,w.s.2) :: if w.x.op=13 then [] else [(w.s.1+1,w.s.2)]:=by unfold nxt; rw[if_neg (by omega),if_neg (by omega),if_neg (by omega),if_neg (by omega),if_pos ⟨h13,h16⟩,if_neg (by omega)]; rfl
  refine round39 (mk:=mk) (F'':=[(87,.bt),(0,YI w),(2,.ptr 11 0),(5,.ptr 15 0)]) w st (w.x.imm,w.s.2) q rec gn (w.s.1+1,w.s.2) { F:=walkF,H:=H0 w st q } ⟨hi0,hi1⟩ hrg (by omega) (by omega) hv hst hrec rfl (h0_ext w st st q q _ gn _ (Since.refl st q)) ?_ rfl ?_ hF fun q1 hle hk1 hv1=>?_
  ·show den _ (lk F 81)=_
   rw[h81]; rfl
  ·show [lk F 86]=_
   rw[h86]
  have sn:Since st q (meet w.bn w.set w.s.1 st (w.x.imm,w.s.2)) q1:=(Since.refl st q).step hle hk1 hv1
  have hlen:=meet_len w.bn w.set w.s.1 st (w.x.imm,w.s.2)
  have hrg1:Rg (meet w.bn w.set w.s.1 st (w.x.imm,w.s.2)).met:=hrg.meet hi0 hi1
  have hv1':q1.v=0∨q1.v=1:=by have:=hle.v0; have:=hle.v1; omega
  generalize hst1:meet w.bn w.set w.s.1 st (w.x.imm,w.s.2)=st1 at *
  (refine Y_go 600 ?_; dsimp only[go_sem,YI,HM,In.sv,Nat.reduceBEq,reduceAdd])
  refine⟨fun h=>?_,fun h=>?_⟩
  ·have h:w.x.op=13:=by simpa using h
   have hgo:goSt w st=st1:=by simp[goSt,hfn,hnx,h,hst1]
   have:=it_ret (b:=b) (N:=N) (stl:=stl) (mk:=mk) w st q rec hend q1 gn (w.s.1+1,w.s.2) (by rw[hgo]; exact sn)
   rw[hgo] at this
   exact this _
  ·have h:w.x.op ≠ 13:=by simpa using h
   have hgo:meet w.bn w.set w.s.1 st1 (w.s.1+1,w.s.2)=goSt w st:=by simp[goSt,hfn,hnx,h,hst1]
   exact zj1a (b:=b) (N:=N) (stl:=stl) (mk:=mk) w st q rec hend hrgn hst hrec st1 q1 gn (w.s.1+1,w.s.2) (w.s.1+1,w.s.2) sn h1s hrg1 (by omega) (by omega) hv1' hgo _ rfl rfl _
 refine⟨fun h1=>⟨fun hin=>?_,fun hin=>?_⟩,fun h1=>⟨fun h17=>⟨fun hin=>?_,fun hin=>?_⟩,fun h17=>?_⟩⟩
 ·simp only[beq_iff_eq,beq_eq_false_iff_ne,decide_eq_true_eq,decide_eq_false_iff_not,ne_eq,Bool.not_eq_true',Bool.not_eq_false',ge_iff_le,gt_iff_lt] at h1
  refine zj0h (C:=cxOf Tryz.prog Tryz.f69 K69 T69 R') rfl (gm:=w.gm) (gl:=w.gl) (B:=w.B) (bn:=w.bn) (bc:=w.bc) (m:=st.met) (k:=q.k) (A:=q.Af) (n:=st.fs.length) (c:=q.cf) (xs:=fsV st.fs) (cd:=4) (p:=w.s.1) (r:=HM w st q (.loop rec)++[.cells gn 68 [.val (.int .i64 (w.s.1+1)),.val (.bool w.s.2)]]) (by omega) ?_ fun A' c'=>zj0z ?_
  ·rfl
  (refine Y_go 600 ?_; dsimp only[go_sem])
  exact fndR 4 (by unfold fnd; rw[if_pos h1,hin]; rfl) (by unfold nxt; rw[if_pos h1]) A' c' (w.s.1+1,w.s.2) _
 ·simp only[beq_iff_eq,beq_eq_false_iff_ne,decide_eq_true_eq,decide_eq_false_iff_not,ne_eq,Bool.not_eq_true',Bool.not_eq_false',ge_iff_le,gt_iff_lt] at h1
  have hgo:goSt w st=st:=by
   have e1:nxt w.x w.s=[]:=by unfold nxt; rw[if_pos h1]
   have e2:fnd w.x w.s=[]:=by unfold fnd; rw[if_pos h1,hin]; rfl
   simp[goSt,e1,e2]
  have:=it_ret (b:=b) (N:=N) (stl:=stl) (mk:=mk) w st q rec hend q gn (w.s.1+1,w.s.2) (by rw[hgo]; exact Since.refl st q)
  rw[hgo] at this
  exact this _
 ·simp only[beq_iff_eq,beq_eq_false_iff_ne,decide_eq_true_eq,decide_eq_false_iff_not,ne_eq,Bool.not_eq_true',Bool.not_eq_false',ge_iff_le,gt_iff_lt] at h1 h17
  refine zj0h (C:=cxOf Tryz.prog Tryz.f69 K69 T69 R') rfl (gm:=w.gm) (gl:=w.gl) (B:=w.B) (bn:=w.bn) (bc:=w.bc) (m:=st.met) (k:=q.k) (A:=q.Af) (n:=st.fs.length) (c:=q.cf) (xs:=fsV st.fs) (cd:=3) (p:=w.s.1) (r:=HM w st q (.loop rec)++[.cells gn 68 [.val (.int .i64 (w.s.1+1)),.val (.bool w.s.2)]]) (by omega) ?_ fun A' c'=>zj0z ?_
  ·rfl
  (refine Y_go 600 ?_; dsimp only[go_sem])
  exact fndR 3 (by unfold fnd; rw[if_neg h1,if_pos ⟨h17,hin⟩]) (by unfold nxt; rw[if_neg h1,if_pos ⟨h17,hin⟩]) A' c' (w.s.1+1,w.s.2) _
 ·refine⟨fun h18=>⟨fun hni=>?_,fun hni=>?_⟩,fun h18=>?_⟩
  ·simp only[beq_iff_eq,beq_eq_false_iff_ne,decide_eq_true_eq,decide_eq_false_iff_not,ne_eq,Bool.not_eq_true',Bool.not_eq_false',ge_iff_le,gt_iff_lt] at h1 h17 h18 hni
   refine zj0h (C:=cxOf Tryz.prog Tryz.f69 K69 T69 R') rfl (gm:=w.gm) (gl:=w.gl) (B:=w.B) (bn:=w.bn) (bc:=w.bc) (m:=st.met) (k:=q.k) (A:=q.Af) (n:=st.fs.length) (c:=q.cf) (xs:=fsV st.fs) (cd:=2) (p:=w.s.1) (r:=HM w st q (.loop rec)++[.cells gn 68 [.val (.int .i64 (w.s.1+1)),.val (.bool w.s.2)]]) (by omega) ?_ fun A' c'=>zj0z ?_
   ·rfl
   (refine Y_go 600 ?_; dsimp only[go_sem])
   exact fndR 2 (by unfold fnd; rw[if_neg h1,if_neg (by omega),if_pos ⟨h18,hni⟩]) (by unfold nxt; rw[if_neg h1,if_neg (by omega),if_pos ⟨h18,hni⟩]) A' c' (w.s.1+1,w.s.2) _
  ·refine⟨fun h17b=>?_,fun h17b=>⟨fun h18b=>?_,fun h18b=>?_⟩⟩
   ·simp only[beq_iff_eq,beq_eq_false_iff_ne,decide_eq_true_eq,decide_eq_false_iff_not,ne_eq,Bool.not_eq_true',Bool.not_eq_false',ge_iff_le,gt_iff_lt] at h1 h17 h18 hni h17b
    have hnx:nxt w.x w.s=[(w.s.1+1,!w.s.2)]:=by unfold nxt; rw[if_neg (by omega),if_neg (fun e=>by first | omega | (rw[hin] at e; simp at e)),if_neg (fun e=>by first | omega | (rw[hni] at e; simp at e)),if_pos (by omega)]
    have hfn:fnd w.x w.s=[]:=by unfold fnd; rw[if_neg (by omega),if_neg (fun e=>by first | omega | (rw[hin] at e; simp at e)),if_neg (fun e=>by first | omega | (rw[hni] at e; simp at e)),if_pos (by omega)]
    have hgo:meet w.bn w.set w.s.1 st (w.s.1+1,!w.s.2)=goSt w st:=by simp[goSt,hnx,hfn]
    exact zj1a (b:=b) (N:=N) (stl:=stl) (mk:=mk) w st q rec hend hrgn hst hrec st q gn (w.s.1+1,!w.s.2) (w.s.1+1,!w.s.2) (Since.refl st q) h1s hrg (by omega) (by omega) hv hgo _ rfl rfl _
   ·simp only[beq_iff_eq,beq_eq_false_iff_ne,decide_eq_true_eq,decide_eq_false_iff_not,ne_eq,Bool.not_eq_true',Bool.not_eq_false',ge_iff_le,gt_iff_lt] at h1 h17 h18 hni h17b h18b
    have hnx:nxt w.x w.s=[(w.s.1+1,!w.s.2)]:=by unfold nxt; rw[if_neg (by omega),if_neg (fun e=>by first | omega | (rw[hin] at e; simp at e)),if_neg (fun e=>by first | omega | (rw[hni] at e; simp at e)),if_pos (by omega)]
    have hfn:fnd w.x w.s=[]:=by unfold fnd; rw[if_neg (by omega),if_neg (fun e=>by first | omega | (rw[hin] at e; simp at e)),if_neg (fun e=>by first | omega | (rw[hni] at e; simp at e)),if_pos (by omega)]
    have hgo:meet w.bn w.set w.s.1 st (w.s.1+1,!w.s.2)=goSt w st:=by simp[goSt,hnx,hfn]
    exact zj1a (b:=b) (N:=N) (stl:=stl) (mk:=mk) w st q rec hend hrgn hst hrec st q gn (w.s.1+1,!w.s.2) (w.s.1+1,!w.s.2) (Since.refl st q) h1s hrg (by omega) (by omega) hv hgo _ rfl rfl _
   ·refine⟨fun h13=>⟨fun h16=>?_,fun h16=>?_⟩,fun h13=>?_⟩
    ·refine⟨fun hneg=>?_,fun hneg=>⟨fun hbig=>?_,fun hbig=>?_⟩⟩
     ·simp only[beq_iff_eq,beq_eq_false_iff_ne,decide_eq_true_eq,decide_eq_false_iff_not,ne_eq,Bool.not_eq_true',Bool.not_eq_false',ge_iff_le,gt_iff_lt] at h1 h17 h18 hni h17b h18b h13 h16 hneg
      refine zj0h (C:=cxOf Tryz.prog Tryz.f69 K69 T69 R') rfl (gm:=w.gm) (gl:=w.gl) (B:=w.B) (bn:=w.bn) (bc:=w.bc) (m:=st.met) (k:=q.k) (A:=q.Af) (n:=st.fs.length) (c:=q.cf) (xs:=fsV st.fs) (cd:=6) (p:=w.s.1) (r:=HM w st q (.loop rec)++[.cells gn 68 [.val (.int .i64 (w.s.1+1)),.val (.bool w.s.2)]]) (by omega) ?_ fun A' c'=>zj0z ?_
      ·rfl
      exact bad (by first | exact .inl (by omega) | exact .inr (by omega)) (by omega) (by omega) A' c' _ (by simp only[putF]; (simp only[go_sem,lk,Nat.reduceBEq,reduceLT,reduceAdd] <;> try simp))
     ·simp only[beq_iff_eq,beq_eq_false_iff_ne,decide_eq_true_eq,decide_eq_false_iff_not,ne_eq,Bool.not_eq_true',Bool.not_eq_false',ge_iff_le,gt_iff_lt] at h1 h17 h18 hni h17b h18b h13 h16 hneg hbig
      refine zj0h (C:=cxOf Tryz.prog Tryz.f69 K69 T69 R') rfl (gm:=w.gm) (gl:=w.gl) (B:=w.B) (bn:=w.bn) (bc:=w.bc) (m:=st.met) (k:=q.k) (A:=q.Af) (n:=st.fs.length) (c:=q.cf) (xs:=fsV st.fs) (cd:=6) (p:=w.s.1) (r:=HM w st q (.loop rec)++[.cells gn 68 [.val (.int .i64 (w.s.1+1)),.val (.bool w.s.2)]]) (by omega) ?_ fun A' c'=>zj0z ?_
      ·rfl
      exact bad (by first | exact .inl (by omega) | exact .inr (by omega)) (by omega) (by omega) A' c' _ (by simp only[putF]; (simp only[go_sem,lk,Nat.reduceBEq,reduceLT,reduceAdd] <;> try simp))
     ·simp only[beq_iff_eq,beq_eq_false_iff_ne,decide_eq_true_eq,decide_eq_false_iff_not,ne_eq,Bool.not_eq_true',Bool.not_eq_false',ge_iff_le,gt_iff_lt] at h1 h17 h18 hni h17b h18b h13 h16 hneg hbig
      exact jump (by omega) (by omega) (by omega) (by omega) _ rfl rfl (by (simp only[go_sem,lk,Nat.reduceBEq,reduceLT,reduceAdd] <;> try simp))
    ·simp only[beq_iff_eq,beq_eq_false_iff_ne,decide_eq_true_eq,decide_eq_false_iff_not,ne_eq,Bool.not_eq_true',Bool.not_eq_false',ge_iff_le,gt_iff_lt] at h1 h17 h18 hni h17b h18b h13 h16
     have hnx:nxt w.x w.s=[(w.s.1+1,w.s.2)]:=by unfold nxt; rw[if_neg (by omega),if_neg (fun e=>by first | omega | (rw[hin] at e; simp at e)),if_neg (fun e=>by first | omega | (rw[hni] at e; simp at e)),if_neg (by omega),if_neg (by omega)]
     have hfn:fnd w.x w.s=[]:=by unfold fnd; rw[if_neg (by omega),if_neg (fun e=>by first | omega | (rw[hin] at e; simp at e)),if_neg (fun e=>by first | omega | (rw[hni] at e; simp at e)),if_neg (by omega),if_neg (by omega)]
     have hgo:meet w.bn w.set w.s.1 st (w.s.1+1,w.s.2)=goSt w st:=by simp[goSt,hnx,hfn]
     exact zj1a (b:=b) (N:=N) (stl:=stl) (mk:=mk) w st q rec hend hrgn hst hrec st q gn (w.s.1+1,w.s.2) (w.s.1+1,w.s.2) (Since.refl st q) h1s hrg (by omega) (by omega) hv hgo _ rfl rfl _
    ·simp only[beq_iff_eq,beq_eq_false_iff_ne,decide_eq_true_eq,decide_eq_false_iff_not,ne_eq,Bool.not_eq_true',Bool.not_eq_false',ge_iff_le,gt_iff_lt] at h1 h17 h18 hni h17b h18b h13
     have hnx:nxt w.x w.s=[(w.s.1+1,w.s.2)]:=by unfold nxt; rw[if_neg (by omega),if_neg (fun e=>by first | omega | (rw[hin] at e; simp at e)),if_neg (fun e=>by first | omega | (rw[hni] at e; simp at e)),if_neg (by omega),if_neg (by omega)]
     have hfn:fnd w.x w.s=[]:=by unfold fnd; rw[if_neg (by omega),if_neg (fun e=>by first | omega | (rw[hin] at e; simp at e)),if_neg (fun e=>by first | omega | (rw[hni] at e; simp at e)),if_neg (by omega),if_neg (by omega)]
     have hgo:meet w.bn w.set w.s.1 st (w.s.1+1,w.s.2)=goSt w st:=by simp[goSt,hnx,hfn]
     exact zj1a (b:=b) (N:=N) (stl:=stl) (mk:=mk) w st q rec hend hrgn hst hrec st q gn (w.s.1+1,w.s.2) (w.s.1+1,w.s.2) (Since.refl st q) h1s hrg (by omega) (by omega) hv hgo _ rfl rfl _
  ·refine⟨fun h17b=>?_,fun h17b=>⟨fun h18b=>?_,fun h18b=>?_⟩⟩
   ·simp only[beq_iff_eq,beq_eq_false_iff_ne,decide_eq_true_eq,decide_eq_false_iff_not,ne_eq,Bool.not_eq_true',Bool.not_eq_false',ge_iff_le,gt_iff_lt] at h1 h17 h18 h17b
    have hnx:nxt w.x w.s=[(w.s.1+1,!w.s.2)]:=by unfold nxt; rw[if_neg (by omega),if_neg (fun e=>by first | omega | (rw[hin] at e; simp at e)),if_neg (fun e=>by first | omega | (rw[hni] at e; simp at e)),if_pos (by omega)]
    have hfn:fnd w.x w.s=[]:=by unfold fnd; rw[if_neg (by omega),if_neg (fun e=>by first | omega | (rw[hin] at e; simp at e)),if_neg (fun e=>by first | omega | (rw[hni] at e; simp at e)),if_pos (by omega)]
    have hgo:meet w.bn w.set w.s.1 st (w.s.1+1,!w.s.2)=goSt w st:=by simp[goSt,hnx,hfn]
    exact zj1a (b:=b) (N:=N) (stl:=stl) (mk:=mk) w st q rec hend hrgn hst hrec st q gn (w.s.1+1,!w.s.2) (w.s.1+1,!w.s.2) (Since.refl st q) h1s hrg (by omega) (by omega) hv hgo _ rfl rfl _
   ·simp only[beq_iff_eq,beq_eq_false_iff_ne,decide_eq_true_eq,decide_eq_false_iff_not,ne_eq,Bool.not_eq_true',Bool.not_eq_false',ge_iff_le,gt_iff_lt] at h1 h17 h18 h17b h18b
    have hnx:nxt w.x w.s=[(w.s.1+1,!w.s.2)]:=by unfold nxt; rw[if_neg (by omega),if_neg (fun e=>by first | omega | (rw[hin] at e; simp at e)),if_neg (fun e=>by first | omega | (rw[hni] at e; simp at e)),if_pos (by omega)]
    have hfn:fnd w.x w.s=[]:=by unfold fnd; rw[if_neg (by omega),if_neg (fun e=>by first | omega | (rw[hin] at e; simp at e)),if_neg (fun e=>by first | omega | (rw[hni] at e; simp at e)),if_pos (by omega)]
    have hgo:meet w.bn w.set w.s.1 st (w.s.1+1,!w.s.2)=goSt w st:=by simp[goSt,hnx,hfn]
    exact zj1a (b:=b) (N:=N) (stl:=stl) (mk:=mk) w st q rec hend hrgn hst hrec st q gn (w.s.1+1,!w.s.2) (w.s.1+1,!w.s.2) (Since.refl st q) h1s hrg (by omega) (by omega) hv hgo _ rfl rfl _
   ·refine⟨fun h13=>⟨fun h16=>?_,fun h16=>?_⟩,fun h13=>?_⟩
    ·refine⟨fun hneg=>?_,fun hneg=>⟨fun hbig=>?_,fun hbig=>?_⟩⟩
     ·simp only[beq_iff_eq,beq_eq_false_iff_ne,decide_eq_true_eq,decide_eq_false_iff_not,ne_eq,Bool.not_eq_true',Bool.not_eq_false',ge_iff_le,gt_iff_lt] at h1 h17 h18 h17b h18b h13 h16 hneg
      refine zj0h (C:=cxOf Tryz.prog Tryz.f69 K69 T69 R') rfl (gm:=w.gm) (gl:=w.gl) (B:=w.B) (bn:=w.bn) (bc:=w.bc) (m:=st.met) (k:=q.k) (A:=q.Af) (n:=st.fs.length) (c:=q.cf) (xs:=fsV st.fs) (cd:=6) (p:=w.s.1) (r:=HM w st q (.loop rec)++[.cells gn 68 [.val (.int .i64 (w.s.1+1)),.val (.bool w.s.2)]]) (by omega) ?_ fun A' c'=>zj0z ?_
      ·rfl
      exact bad (by first | exact .inl (by omega) | exact .inr (by omega)) (by omega) (by omega) A' c' _ (by simp only[putF]; (simp only[go_sem,lk,Nat.reduceBEq,reduceLT,reduceAdd] <;> try simp))
     ·simp only[beq_iff_eq,beq_eq_false_iff_ne,decide_eq_true_eq,decide_eq_false_iff_not,ne_eq,Bool.not_eq_true',Bool.not_eq_false',ge_iff_le,gt_iff_lt] at h1 h17 h18 h17b h18b h13 h16 hneg hbig
      refine zj0h (C:=cxOf Tryz.prog Tryz.f69 K69 T69 R') rfl (gm:=w.gm) (gl:=w.gl) (B:=w.B) (bn:=w.bn) (bc:=w.bc) (m:=st.met) (k:=q.k) (A:=q.Af) (n:=st.fs.length) (c:=q.cf) (xs:=fsV st.fs) (cd:=6) (p:=w.s.1) (r:=HM w st q (.loop rec)++[.cells gn 68 [.val (.int .i64 (w.s.1+1)),.val (.bool w.s.2)]]) (by omega) ?_ fun A' c'=>zj0z ?_
      ·rfl
      exact bad (by first | exact .inl (by omega) | exact .inr (by omega)) (by omega) (by omega) A' c' _ (by simp only[putF]; (simp only[go_sem,lk,Nat.reduceBEq,reduceLT,reduceAdd] <;> try simp))
     ·simp only[beq_iff_eq,beq_eq_false_iff_ne,decide_eq_true_eq,decide_eq_false_iff_not,ne_eq,Bool.not_eq_true',Bool.not_eq_false',ge_iff_le,gt_iff_lt] at h1 h17 h18 h17b h18b h13 h16 hneg hbig
      exact jump (by omega) (by omega) (by omega) (by omega) _ rfl rfl (by (simp only[go_sem,lk,Nat.reduceBEq,reduceLT,reduceAdd] <;> try simp))
    ·simp only[beq_iff_eq,beq_eq_false_iff_ne,decide_eq_true_eq,decide_eq_false_iff_not,ne_eq,Bool.not_eq_true',Bool.not_eq_false',ge_iff_le,gt_iff_lt] at h1 h17 h18 h17b h18b h13 h16
     have hnx:nxt w.x w.s=[(w.s.1+1,w.s.2)]:=by unfold nxt; rw[if_neg (by omega),if_neg (fun e=>by first | omega | (rw[hin] at e; simp at e)),if_neg (fun e=>by first | omega | (rw[hni] at e; simp at e)),if_neg (by omega),if_neg (by omega)]
     have hfn:fnd w.x w.s=[]:=by unfold fnd; rw[if_neg (by omega),if_neg (fun e=>by first | omega | (rw[hin] at e; simp at e)),if_neg (fun e=>by first | omega | (rw[hni] at e; simp at e)),if_neg (by omega),if_neg (by omega)]
     have hgo:meet w.bn w.set w.s.1 st (w.s.1+1,w.s.2)=goSt w st:=by simp[goSt,hnx,hfn]
     exact zj1a (b:=b) (N:=N) (stl:=stl) (mk:=mk) w st q rec hend hrgn hst hrec st q gn (w.s.1+1,w.s.2) (w.s.1+1,w.s.2) (Since.refl st q) h1s hrg (by omega) (by omega) hv hgo _ rfl rfl _
    ·simp only[beq_iff_eq,beq_eq_false_iff_ne,decide_eq_true_eq,decide_eq_false_iff_not,ne_eq,Bool.not_eq_true',Bool.not_eq_false',ge_iff_le,gt_iff_lt] at h1 h17 h18 h17b h18b h13
     have hnx:nxt w.x w.s=[(w.s.1+1,w.s.2)]:=by unfold nxt; rw[if_neg (by omega),if_neg (fun e=>by first | omega | (rw[hin] at e; simp at e)),if_neg (fun e=>by first | omega | (rw[hni] at e; simp at e)),if_neg (by omega),if_neg (by omega)]
     have hfn:fnd w.x w.s=[]:=by unfold fnd; rw[if_neg (by omega),if_neg (fun e=>by first | omega | (rw[hin] at e; simp at e)),if_neg (fun e=>by first | omega | (rw[hni] at e; simp at e)),if_neg (by omega),if_neg (by omega)]
     have hgo:meet w.bn w.set w.s.1 st (w.s.1+1,w.s.2)=goSt w st:=by simp[goSt,hnx,hfn]
     exact zj1a (b:=b) (N:=N) (stl:=stl) (mk:=mk) w st q rec hend hrgn hst hrec st q gn (w.s.1+1,w.s.2) (w.s.1+1,w.s.2) (Since.refl st q) h1s hrg (by omega) (by omega) hv hgo _ rfl rfl _
 ·refine⟨fun h18=>⟨fun hni=>?_,fun hni=>?_⟩,fun h18=>?_⟩
  ·simp only[beq_iff_eq,beq_eq_false_iff_ne,decide_eq_true_eq,decide_eq_false_iff_not,ne_eq,Bool.not_eq_true',Bool.not_eq_false',ge_iff_le,gt_iff_lt] at h1 h17 h18 hni
   refine zj0h (C:=cxOf Tryz.prog Tryz.f69 K69 T69 R') rfl (gm:=w.gm) (gl:=w.gl) (B:=w.B) (bn:=w.bn) (bc:=w.bc) (m:=st.met) (k:=q.k) (A:=q.Af) (n:=st.fs.length) (c:=q.cf) (xs:=fsV st.fs) (cd:=2) (p:=w.s.1) (r:=HM w st q (.loop rec)++[.cells gn 68 [.val (.int .i64 (w.s.1+1)),.val (.bool w.s.2)]]) (by omega) ?_ fun A' c'=>zj0z ?_
   ·rfl
   (refine Y_go 600 ?_; dsimp only[go_sem])
   exact fndR 2 (by unfold fnd; rw[if_neg h1,if_neg (by omega),if_pos ⟨h18,hni⟩]) (by unfold nxt; rw[if_neg h1,if_neg (by omega),if_pos ⟨h18,hni⟩]) A' c' (w.s.1+1,w.s.2) _
  ·refine⟨fun h17b=>?_,fun h17b=>⟨fun h18b=>?_,fun h18b=>?_⟩⟩
   ·simp only[beq_iff_eq,beq_eq_false_iff_ne,decide_eq_true_eq,decide_eq_false_iff_not,ne_eq,Bool.not_eq_true',Bool.not_eq_false',ge_iff_le,gt_iff_lt] at h1 h17 h18 hni h17b
    have hnx:nxt w.x w.s=[(w.s.1+1,!w.s.2)]:=by unfold nxt; rw[if_neg (by omega),if_neg (fun e=>by first | omega | (rw[hin] at e; simp at e)),if_neg (fun e=>by first | omega | (rw[hni] at e; simp at e)),if_pos (by omega)]
    have hfn:fnd w.x w.s=[]:=by unfold fnd; rw[if_neg (by omega),if_neg (fun e=>by first | omega | (rw[hin] at e; simp at e)),if_neg (fun e=>by first | omega | (rw[hni] at e; simp at e)),if_pos (by omega)]
    have hgo:meet w.bn w.set w.s.1 st (w.s.1+1,!w.s.2)=goSt w st:=by simp[goSt,hnx,hfn]
    exact zj1a (b:=b) (N:=N) (stl:=stl) (mk:=mk) w st q rec hend hrgn hst hrec st q gn (w.s.1+1,!w.s.2) (w.s.1+1,!w.s.2) (Since.refl st q) h1s hrg (by omega) (by omega) hv hgo _ rfl rfl _
   ·simp only[beq_iff_eq,beq_eq_false_iff_ne,decide_eq_true_eq,decide_eq_false_iff_not,ne_eq,Bool.not_eq_true',Bool.not_eq_false',ge_iff_le,gt_iff_lt] at h1 h17 h18 hni h17b h18b
    have hnx:nxt w.x w.s=[(w.s.1+1,!w.s.2)]:=by unfold nxt; rw[if_neg (by omega),if_neg (fun e=>by first | omega | (rw[hin] at e; simp at e)),if_neg (fun e=>by first | omega | (rw[hni] at e; simp at e)),if_pos (by omega)]
    have hfn:fnd w.x w.s=[]:=by unfold fnd; rw[if_neg (by omega),if_neg (fun e=>by first | omega | (rw[hin] at e; simp at e)),if_neg (fun e=>by first | omega | (rw[hni] at e; simp at e)),if_pos (by omega)]
    have hgo:meet w.bn w.set w.s.1 st (w.s.1+1,!w.s.2)=goSt w st:=by simp[goSt,hnx,hfn]
    exact zj1a (b:=b) (N:=N) (stl:=stl) (mk:=mk) w st q rec hend hrgn hst hrec st q gn (w.s.1+1,!w.s.2) (w.s.1+1,!w.s.2) (Since.refl st q) h1s hrg (by omega) (by omega) hv hgo _ rfl rfl _
   ·refine⟨fun h13=>⟨fun h16=>?_,fun h16=>?_⟩,fun h13=>?_⟩
    ·refine⟨fun hneg=>?_,fun hneg=>⟨fun hbig=>?_,fun hbig=>?_⟩⟩
     ·simp only[beq_iff_eq,beq_eq_false_iff_ne,decide_eq_true_eq,decide_eq_false_iff_not,ne_eq,Bool.not_eq_true',Bool.not_eq_false',ge_iff_le,gt_iff_lt] at h1 h17 h18 hni h17b h18b h13 h16 hneg
      refine zj0h (C:=cxOf Tryz.prog Tryz.f69 K69 T69 R') rfl (gm:=w.gm) (gl:=w.gl) (B:=w.B) (bn:=w.bn) (bc:=w.bc) (m:=st.met) (k:=q.k) (A:=q.Af) (n:=st.fs.length) (c:=q.cf) (xs:=fsV st.fs) (cd:=6) (p:=w.s.1) (r:=HM w st q (.loop rec)++[.cells gn 68 [.val (.int .i64 (w.s.1+1)),.val (.bool w.s.2)]]) (by omega) ?_ fun A' c'=>zj0z ?_
      ·rfl
      exact bad (by first | exact .inl (by omega) | exact .inr (by omega)) (by omega) (by omega) A' c' _ (by simp only[putF]; (simp only[go_sem,lk,Nat.reduceBEq,reduceLT,reduceAdd] <;> try simp))
     ·simp only[beq_iff_eq,beq_eq_false_iff_ne,decide_eq_true_eq,decide_eq_false_iff_not,ne_eq,Bool.not_eq_true',Bool.not_eq_false',ge_iff_le,gt_iff_lt] at h1 h17 h18 hni h17b h18b h13 h16 hneg hbig
      refine zj0h (C:=cxOf Tryz.prog Tryz.f69 K69 T69 R') rfl (gm:=w.gm) (gl:=w.gl) (B:=w.B) (bn:=w.bn) (bc:=w.bc) (m:=st.met) (k:=q.k) (A:=q.Af) (n:=st.fs.length) (c:=q.cf) (xs:=fsV st.fs) (cd:=6) (p:=w.s.1) (r:=HM w st q (.loop rec)++[.cells gn 68 [.val (.int .i64 (w.s.1+1)),.val (.bool w.s.2)]]) (by omega) ?_ fun A' c'=>zj0z ?_
      ·rfl
      exact bad (by first | exact .inl (by omega) | exact .inr (by omega)) (by omega) (by omega) A' c' _ (by simp only[putF]; (simp only[go_sem,lk,Nat.reduceBEq,reduceLT,reduceAdd] <;> try simp))
     ·simp only[beq_iff_eq,beq_eq_false_iff_ne,decide_eq_true_eq,decide_eq_false_iff_not,ne_eq,Bool.not_eq_true',Bool.not_eq_false',ge_iff_le,gt_iff_lt] at h1 h17 h18 hni h17b h18b h13 h16 hneg hbig
      exact jump (by omega) (by omega) (by omega) (by omega) _ rfl rfl (by (simp only[go_sem,lk,Nat.reduceBEq,reduceLT,reduceAdd] <;> try simp))
    ·simp only[beq_iff_eq,beq_eq_false_iff_ne,decide_eq_true_eq,decide_eq_false_iff_not,ne_eq,Bool.not_eq_true',Bool.not_eq_false',ge_iff_le,gt_iff_lt] at h1 h17 h18 hni h17b h18b h13 h16
     have hnx:nxt w.x w.s=[(w.s.1+1,w.s.2)]:=by unfold nxt; rw[if_neg (by omega),if_neg (fun e=>by first | omega | (rw[hin] at e; simp at e)),if_neg (fun e=>by first | omega | (rw[hni] at e; simp at e)),if_neg (by omega),if_neg (by omega)]
     have hfn:fnd w.x w.s=[]:=by unfold fnd; rw[if_neg (by omega),if_neg (fun e=>by first | omega | (rw[hin] at e; simp at e)),if_neg (fun e=>by first | omega | (rw[hni] at e; simp at e)),if_neg (by omega),if_neg (by omega)]
     have hgo:meet w.bn w.set w.s.1 st (w.s.1+1,w.s.2)=goSt w st:=by simp[goSt,hnx,hfn]
     exact zj1a (b:=b) (N:=N) (stl:=stl) (mk:=mk) w st q rec hend hrgn hst hrec st q gn (w.s.1+1,w.s.2) (w.s.1+1,w.s.2) (Since.refl st q) h1s hrg (by omega) (by omega) hv hgo _ rfl rfl _
    ·simp only[beq_iff_eq,beq_eq_false_iff_ne,decide_eq_true_eq,decide_eq_false_iff_not,ne_eq,Bool.not_eq_true',Bool.not_eq_false',ge_iff_le,gt_iff_lt] at h1 h17 h18 hni h17b h18b h13
     have hnx:nxt w.x w.s=[(w.s.1+1,w.s.2)]:=by unfold nxt; rw[if_neg (by omega),if_neg (fun e=>by first | omega | (rw[hin] at e; simp at e)),if_neg (fun e=>by first | omega | (rw[hni] at e; simp at e)),if_neg (by omega),if_neg (by omega)]
     have hfn:fnd w.x w.s=[]:=by unfold fnd; rw[if_neg (by omega),if_neg (fun e=>by first | omega | (rw[hin] at e; simp at e)),if_neg (fun e=>by first | omega | (rw[hni] at e; simp at e)),if_neg (by omega),if_neg (by omega)]
     have hgo:meet w.bn w.set w.s.1 st (w.s.1+1,w.s.2)=goSt w st:=by simp[goSt,hnx,hfn]
     exact zj1a (b:=b) (N:=N) (stl:=stl) (mk:=mk) w st q rec hend hrgn hst hrec st q gn (w.s.1+1,w.s.2) (w.s.1+1,w.s.2) (Since.refl st q) h1s hrg (by omega) (by omega) hv hgo _ rfl rfl _
  ·refine⟨fun h17b=>?_,fun h17b=>⟨fun h18b=>?_,fun h18b=>?_⟩⟩
   ·simp only[beq_iff_eq,beq_eq_false_iff_ne,decide_eq_true_eq,decide_eq_false_iff_not,ne_eq,Bool.not_eq_true',Bool.not_eq_false',ge_iff_le,gt_iff_lt] at h1 h17 h18 h17b
    have hnx:nxt w.x w.s=[(w.s.1+1,!w.s.2)]:=by unfold nxt; rw[if_neg (by omega),if_neg (fun e=>by first | omega | (rw[hin] at e; simp at e)),if_neg (fun e=>by first | omega | (rw[hni] at e; simp at e)),if_pos (by omega)]
    have hfn:fnd w.x w.s=[]:=by unfold fnd; rw[if_neg (by omega),if_neg (fun e=>by first | omega | (rw[hin] at e; simp at e)),if_neg (fun e=>by first | omega | (rw[hni] at e; simp at e)),if_pos (by omega)]
    have hgo:meet w.bn w.set w.s.1 st (w.s.1+1,!w.s.2)=goSt w st:=by simp[goSt,hnx,hfn]
    exact zj1a (b:=b) (N:=N) (stl:=stl) (mk:=mk) w st q rec hend hrgn hst hrec st q gn (w.s.1+1,!w.s.2) (w.s.1+1,!w.s.2) (Since.refl st q) h1s hrg (by omega) (by omega) hv hgo _ rfl rfl _
   ·simp only[beq_iff_eq,beq_eq_false_iff_ne,decide_eq_true_eq,decide_eq_false_iff_not,ne_eq,Bool.not_eq_true',Bool.not_eq_false',ge_iff_le,gt_iff_lt] at h1 h17 h18 h17b h18b
    have hnx:nxt w.x w.s=[(w.s.1+1,!w.s.2)]:=by unfold nxt; rw[if_neg (by omega),if_neg (fun e=>by first | omega | (rw[hin] at e; simp at e)),if_neg (fun e=>by first | omega | (rw[hni] at e; simp at e)),if_pos (by omega)]
    have hfn:fnd w.x w.s=[]:=by unfold fnd; rw[if_neg (by omega),if_neg (fun e=>by first | omega | (rw[hin] at e; simp at e)),if_neg (fun e=>by first | omega | (rw[hni] at e; simp at e)),if_pos (by omega)]
    have hgo:meet w.bn w.set w.s.1 st (w.s.1+1,!w.s.2)=goSt w st:=by simp[goSt,hnx,hfn]
    exact zj1a (b:=b) (N:=N) (stl:=stl) (mk:=mk) w st q rec hend hrgn hst hrec st q gn (w.s.1+1,!w.s.2) (w.s.1+1,!w.s.2) (Since.refl st q) h1s hrg (by omega) (by omega) hv hgo _ rfl rfl _
   ·refine⟨fun h13=>⟨fun h16=>?_,fun h16=>?_⟩,fun h13=>?_⟩
    ·refine⟨fun hneg=>?_,fun hneg=>⟨fun hbig=>?_,fun hbig=>?_⟩⟩
     ·simp only[beq_iff_eq,beq_eq_false_iff_ne,decide_eq_true_eq,decide_eq_false_iff_not,ne_eq,Bool.not_eq_true',Bool.not_eq_false',ge_iff_le,gt_iff_lt] at h1 h17 h18 h17b h18b h13 h16 hneg
      refine zj0h (C:=cxOf Tryz.prog Tryz.f69 K69 T69 R') rfl (gm:=w.gm) (gl:=w.gl) (B:=w.B) (bn:=w.bn) (bc:=w.bc) (m:=st.met) (k:=q.k) (A:=q.Af) (n:=st.fs.length) (c:=q.cf) (xs:=fsV st.fs) (cd:=6) (p:=w.s.1) (r:=HM w st q (.loop rec)++[.cells gn 68 [.val (.int .i64 (w.s.1+1)),.val (.bool w.s.2)]]) (by omega) ?_ fun A' c'=>zj0z ?_
      ·rfl
      exact bad (by first | exact .inl (by omega) | exact .inr (by omega)) (by omega) (by omega) A' c' _ (by simp only[putF]; (simp only[go_sem,lk,Nat.reduceBEq,reduceLT,reduceAdd] <;> try simp))
     ·simp only[beq_iff_eq,beq_eq_false_iff_ne,decide_eq_true_eq,decide_eq_false_iff_not,ne_eq,Bool.not_eq_true',Bool.not_eq_false',ge_iff_le,gt_iff_lt] at h1 h17 h18 h17b h18b h13 h16 hneg hbig
      refine zj0h (C:=cxOf Tryz.prog Tryz.f69 K69 T69 R') rfl (gm:=w.gm) (gl:=w.gl) (B:=w.B) (bn:=w.bn) (bc:=w.bc) (m:=st.met) (k:=q.k) (A:=q.Af) (n:=st.fs.length) (c:=q.cf) (xs:=fsV st.fs) (cd:=6) (p:=w.s.1) (r:=HM w st q (.loop rec)++[.cells gn 68 [.val (.int .i64 (w.s.1+1)),.val (.bool w.s.2)]]) (by omega) ?_ fun A' c'=>zj0z ?_
      ·rfl
      exact bad (by first | exact .inl (by omega) | exact .inr (by omega)) (by omega) (by omega) A' c' _ (by simp only[putF]; (simp only[go_sem,lk,Nat.reduceBEq,reduceLT,reduceAdd] <;> try simp))
     ·simp only[beq_iff_eq,beq_eq_false_iff_ne,decide_eq_true_eq,decide_eq_false_iff_not,ne_eq,Bool.not_eq_true',Bool.not_eq_false',ge_iff_le,gt_iff_lt] at h1 h17 h18 h17b h18b h13 h16 hneg hbig
      exact jump (by omega) (by omega) (by omega) (by omega) _ rfl rfl (by (simp only[go_sem,lk,Nat.reduceBEq,reduceLT,reduceAdd] <;> try simp))
    ·simp only[beq_iff_eq,beq_eq_false_iff_ne,decide_eq_true_eq,decide_eq_false_iff_not,ne_eq,Bool.not_eq_true',Bool.not_eq_false',ge_iff_le,gt_iff_lt] at h1 h17 h18 h17b h18b h13 h16
     have hnx:nxt w.x w.s=[(w.s.1+1,w.s.2)]:=by unfold nxt; rw[if_neg (by omega),if_neg (fun e=>by first | omega | (rw[hin] at e; simp at e)),if_neg (fun e=>by first | omega | (rw[hni] at e; simp at e)),if_neg (by omega),if_neg (by omega)]
     have hfn:fnd w.x w.s=[]:=by unfold fnd; rw[if_neg (by omega),if_neg (fun e=>by first | omega | (rw[hin] at e; simp at e)),if_neg (fun e=>by first | omega | (rw[hni] at e; simp at e)),if_neg (by omega),if_neg (by omega)]
     have hgo:meet w.bn w.set w.s.1 st (w.s.1+1,w.s.2)=goSt w st:=by simp[goSt,hnx,hfn]
     exact zj1a (b:=b) (N:=N) (stl:=stl) (mk:=mk) w st q rec hend hrgn hst hrec st q gn (w.s.1+1,w.s.2) (w.s.1+1,w.s.2) (Since.refl st q) h1s hrg (by omega) (by omega) hv hgo _ rfl rfl _
    ·simp only[beq_iff_eq,beq_eq_false_iff_ne,decide_eq_true_eq,decide_eq_false_iff_not,ne_eq,Bool.not_eq_true',Bool.not_eq_false',ge_iff_le,gt_iff_lt] at h1 h17 h18 h17b h18b h13
     have hnx:nxt w.x w.s=[(w.s.1+1,w.s.2)]:=by unfold nxt; rw[if_neg (by omega),if_neg (fun e=>by first | omega | (rw[hin] at e; simp at e)),if_neg (fun e=>by first | omega | (rw[hni] at e; simp at e)),if_neg (by omega),if_neg (by omega)]
     have hfn:fnd w.x w.s=[]:=by unfold fnd; rw[if_neg (by omega),if_neg (fun e=>by first | omega | (rw[hin] at e; simp at e)),if_neg (fun e=>by first | omega | (rw[hni] at e; simp at e)),if_neg (by omega),if_neg (by omega)]
     have hgo:meet w.bn w.set w.s.1 st (w.s.1+1,w.s.2)=goSt w st:=by simp[goSt,hnx,hfn]
     exact zj1a (b:=b) (N:=N) (stl:=stl) (mk:=mk) w st q rec hend hrgn hst hrec st q gn (w.s.1+1,w.s.2) (w.s.1+1,w.s.2) (Since.refl st q) h1s hrg (by omega) (by omega) hv hgo _ rfl rfl _
structure WA where
 met:Met
 todo:List Spot
 fs:List (Int × Int)
 Af:Option Addr
 cf:Nat
 At:Option Addr
 ct:Nat
 bw:World
 ms:List Nat
abbrev WA.st (x:WA):St:=⟨x.met,x.todo,x.fs⟩
abbrev HL (gm gl:Nat) (B:Option Addr) (bn bc gb g4 gt:Nat) (x:WA):List SO:=lkE gm gl B bn bc x.met 0 x.Af x.fs.length x.cf (fsV x.fs)++[.cells gb 61 [.ptr 1 0],.gone g4,.cells gt 98 [.own 6 0],.own 68 0 2 x.At x.todo.length x.ct (spotsV x.todo)]
def EL (gm gl:Nat) (B:Option Addr) (bn bc gb g4 gt:Nat) (x:WA):Env:=⟨x.bw,x.bw.heap.size,fps (HL gm gl B bn bc gb g4 gt x),108,x.ms⟩
structure PL (E0:Env) (gm gl:Nat) (B:Option Addr) (bn bc gb g4 gt:Nat) (l:List In) (x:WA):Prop where
 inv:Inv l x.st
 rg:Rg x.met
 few:x.fs.length+4*mu x.st≤40000000
 over:Over E0 (EL gm gl B bn bc gb g4 gt x)
 nd:x.ms.Nodup
 marks:∀ D ∈ x.ms,(EL gm gl B bn bc gb g4 gt x).old D∧x.bw.heap[D]? = some (.deferred (some []))∧¬ E0.old D
theorem sumc {α:Type} (c:Nat) (l:List α):(l.map fun _=>c).sum=c*l.length:=by
 induction l with
 | nil=>simp
 | cons x l ih=>simp only[List.map_cons,List.sum_cons,ih,List.length_cons,Nat.mul_add,Nat.mul_one]; omega
theorem mu0:mu st0≤1300000:=by
 unfold mu total
 have h:(univ.map (wgt st0.met)).sum≤(univ.map fun _=>256).sum:=sum_le univ fun s _=>by
  unfold wgt
  split
  ·exact Nat.le_refl _
  ·rename_i b _; have:=b.isLt; omega
 have h2:(univ.map fun _=>256).sum=524800:=by
  rw[sumc]
  have:univ.length=2050:=by
   unfold univ
   rw[List.length_flatMap]
   simp only[List.length_cons,List.length_nil,Nat.zero_add,reduceAdd]
   rw[sumc,List.length_range]
  rw[this]
 have:st0.todo.length=1:=rfl
 omega
theorem h0_ext2 (w:WG) (st st1:St) (q q1:WV) (o:Obj) (r:List SO) (h:Since st q st1 q1):HExt (H0 w st q) (lkE w.gm w.gl w.B w.bn w.bc st1.met q1.k q1.Af st1.fs.length q1.cf (fsV st1.fs)++(HM w st1 q1 o++r)):=by
 refine zj05 ⟨.inl ⟨_,rfl,rfl⟩,.inl ⟨_,rfl,rfl⟩,zj3a ?_,.inl ⟨_,rfl,rfl⟩,.inl ⟨_,rfl,rfl⟩,.inl ⟨_,rfl,rfl⟩,zj3a ?_,.inl ⟨_,rfl,rfl⟩,.inl ⟨_,rfl,rfl⟩,.inl ⟨_,rfl,rfl⟩,.inl ⟨_,rfl,rfl⟩,.inl ⟨_,rfl,rfl⟩,.inl ⟨_,rfl,rfl⟩,trivial⟩
 ·exact h.k.imp (fun⟨a,b,c,d⟩=>⟨a,b,by rw[d],c,by rw[d]⟩) id
 ·exact h.v.imp (fun⟨a,b,c,d⟩=>⟨a,b,by rw[d],c,by rw[d]⟩) id
theorem walk39 {b:World} {N:Nat} {st:List Nat} {nt0:Nat} {mk0:List Nat} (gm gl:Nat) (B:Option Addr) (bc:Nat) (l:List In) (Af:Option Addr) (cf:Nat) (W:World) (hl:l.length≤1024)
  (hB:RowE ⟨b,N,st,nt0,mk0⟩ B (cellsI l)) (hG:RowE ⟨b,N,st,nt0,mk0⟩ (some ⟨0,0,none⟩) shL) (hW:HeapOk ⟨b,N,st,nt0,mk0⟩ (lkE gm gl B l.length bc [] 0 Af 0 cf []) W) :
  CallsV Tryz.prog 19 [.pointer (some ⟨gl,0,none⟩)] W fun v W'=>v=.tuple #[]∧∃ (m:Met) (fs:List (Int × Int)) (Af':Option Addr) (cf':Nat),(Fin l m fs∧Rg m∧fs.length≤50000000)∧HeapOk ⟨b,N,st,nt0,mk0⟩ (lkE gm gl B l.length bc m 1 Af' fs.length cf' (fsV fs)) W':=by
 refine zj4m (keep:=K19) (nt:=108) (svs:=[.ptr 1 0]) Tryz.func19 x19 n19 (by simp) hW (by simp[IsL,Is,blk,nth]) fun R hR=>?_
 (refine Y_goM 600 ?_; dsimp only[go_sem,reduceAdd,lkE,Nat.reduceBEq])
 refine fun gb=>zj36 (fun _ _ _ h=>h) ?_
 (refine Y_goM 600 ?_; dsimp only[go_sem,Nat.reduceMul,Nat.reduceBEq,reduceAdd])
 refine fun g4 gt=>⟨⟨rfl,by simp[metV]⟩,metV st0.met,rfl,?_⟩
 refine zj08 (α:=WA) (PL ⟨b,N,st,nt0,mk0⟩ gm gl B l.length bc gb g4 gt l) (EL gm gl B l.length bc gb g4 gt) (fun x=>{ F:=[(1,.ptr 3 0),(2,.ptr 5 0)],H:=HL gm gl B l.length bc gb g4 gt x }) (fun x=>mu x.st) (fun _=>rfl) ?start ?round
 case start =>
  intro a W1 rep
  have rep1:=(rep.ownH (i:=4) (sz:=2) 1 rfl (xs:=spotsV [(0,false)]) rfl rfl (by decide)).cellsTo 5 rfl (isl_slc1 (j:=4) (i:=6) rfl rfl)
  refine⟨⟨st0.met,st0.todo,st0.fs,Af,cf,some ⟨g4,0,none⟩,1,W1,[]⟩,⟨.start l,?_,?_,?_,List.nodup_nil,by simp⟩,?_⟩
  ·intro p hp; simp[st0] at hp; subst hp; simp
  ·have:=mu0; show 0+4*mu st0≤_; omega
  ·exact ((Over.refl _).env (A:=⟨b,N,st,nt0,mk0⟩) (B:=⟨b,N,st,108,[]⟩) rfl rfl rfl).trans (rep1.heap.rebase 108 []).2
  ·refine rep1.rebase.le (by (simp only[go_sem,lk,Nat.reduceBEq,reduceLT,reduceAdd] <;> try simp)) ?_
   (simp only[go_sem,lk,Nat.reduceBEq,reduceLT,reduceAdd] <;> try simp)
   exact⟨⟨rfl,rfl⟩,rfl,rfl⟩
 case round =>
  rintro ⟨met,todo,fs,Af,cf,At,ct,bw,ms⟩ hp I hI
  obtain⟨inv,rg,few,ov,nd,hms⟩:=hp
  have ov:Over ⟨b,N,st,nt0,mk0⟩ (EL gm gl B l.length bc gb g4 gt ⟨met,todo,fs,Af,cf,At,ct,bw,ms⟩):=ov
  have rg:Rg met:=rg
  have few:fs.length+4*mu ⟨met,todo,fs⟩≤40000000:=few
  have inv:Inv l ⟨met,todo,fs⟩:=inv
  have hB':RowE (EL gm gl B l.length bc gb g4 gt ⟨met,todo,fs,Af,cf,At,ct,bw,ms⟩) B (cellsI l):=hB.over ov
  have hG':RowE (EL gm gl B l.length bc gb g4 gt ⟨met,todo,fs,Af,cf,At,ct,bw,ms⟩) (some ⟨0,0,none⟩) shL:=hG.over ov
  have hms:∀ D ∈ ms,(EL gm gl B l.length bc gb g4 gt ⟨met,todo,fs,Af,cf,At,ct,bw,ms⟩).old D∧bw.heap[D]? = some (.deferred (some []))∧¬ Env.old ⟨b,N,st,nt0,mk0⟩ D:=hms
  have nd:ms.Nodup:=nd
  have hbw:(EL gm gl B l.length bc gb g4 gt ⟨met,todo,fs,Af,cf,At,ct,bw,ms⟩).b=bw:=rfl
  have hmk:(EL gm gl B l.length bc gb g4 gt ⟨met,todo,fs,Af,cf,At,ct,bw,ms⟩).marks=ms:=rfl
  have hnt:(EL gm gl B l.length bc gb g4 gt ⟨met,todo,fs,Af,cf,At,ct,bw,ms⟩).nt=108:=rfl
  have again:∀ (y:WA) (ms':List Nat),Inv l y.st→Rg y.met→y.fs.length+4*mu y.st≤40000000→mu y.st < mu ⟨met,todo,fs⟩→ms'.Nodup→∀ (F:List (Nat × SV)) (r:List SO) a W,leF 7 F [(1,.ptr 3 0),(2,.ptr 5 0)] →
    Rep { EL gm gl B l.length bc gb g4 gt ⟨met,todo,fs,Af,cf,At,ct,bw,ms⟩ with marks:=ms' } { F:=F,H:=HL gm gl B l.length bc gb g4 gt y++r } a W →
    (∀ D ∈ ms',D ∈ ms∨(¬ (EL gm gl B l.length bc gb g4 gt ⟨met,todo,fs,Af,cf,At,ct,bw,ms⟩).old D∧W.heap[D]? = some (.deferred (some []))∧D ∉ fps (HL gm gl B l.length bc gb g4 gt y)))→I a W:=by
   intro y ms' hinv hrg hfew hmu hnd F r a W hF rep hD
   have rep1:Rep { EL gm gl B l.length bc gb g4 gt ⟨met,todo,fs,Af,cf,At,ct,bw,ms⟩ with marks:=ms' } { F:=[(1,.ptr 3 0),(2,.ptr 5 0)],H:=HL gm gl B l.length bc gb g4 gt y } a W:=rep.le hF (by (simp only[go_sem,lk,Nat.reduceBEq,reduceLT,reduceAdd] <;> try simp))
   have hov:=(rep1.heap.rebase 108 ms').2
   have rep2:=rep1.rebase
   refine hI { y with bw:=W,ms:=ms' } ⟨hinv,hrg,hfew,?_,hnd,fun D hd=>?_⟩ hmu a W rep2
   ·exact (Over.env (A:=EL gm gl B l.length bc gb g4 gt ⟨met,todo,fs,Af,cf,At,ct,bw,ms⟩) (B:={ EL gm gl B l.length bc gb g4 gt ⟨met,todo,fs,Af,cf,At,ct,bw,ms⟩ with marks:=ms' }) rfl rfl rfl ov).trans hov
   ·have hd:D ∈ ms':=hd
    rcases hD D hd with h | ⟨h1,h2,h3⟩
    ·obtain⟨q1,q2,q3⟩:=hms D h
     refine⟨hov.sub D q1,?_,q3⟩
     show W.heap[D]? = _
     rw[← q2]
     exact hov.keep.block D q1
    ·exact⟨⟨(Array.getElem?_eq_some_iff.1 h2).1,h3⟩,h2,fun ho=>h1 (ov.sub D ho)⟩
  generalize hE:EL gm gl B l.length bc gb g4 gt ⟨met,todo,fs,Af,cf,At,ct,bw,ms⟩=E at *
  have again0:∀ (y:WA),Inv l y.st→Rg y.met→y.fs.length+4*mu y.st≤40000000→mu y.st < mu ⟨met,todo,fs⟩→∀ a W,Rep E { F:=[(1,.ptr 3 0),(2,.ptr 5 0)],H:=HL gm gl B l.length bc gb g4 gt y } a W→I a W:=by
   intro y h1 h2 h3 h4 a W rep
   refine again y ms h1 h2 h3 h4 nd [(1,.ptr 3 0),(2,.ptr 5 0)] [] a W (by (simp only[go_sem,lk,Nat.reduceBEq,reduceLT,reduceAdd] <;> try simp)) ?_ fun D hD=>.inl hD
   rw[List.append_nil,← hmk]; exact rep
  cases todo with
  | nil =>
   (refine Y_goM 600 ?_; dsimp only[go_sem,Nat.reduceBEq,reduceAdd,Int.reduceToNat,Nat.reduceMul,Nat.reduceSub])
   refine⟨fun h=>absurd h (by simp),fun _=>?_⟩
   refine stop_marks (vs:=[]) r19 rfl (by rw[hmk]; exact nd) (fun W1 hW1 D hD=>?_) fun W1 W2 hW1 hk hs=>hR _ _ ⟨rfl,met,fs,Af,cf,⟨inv.fin rfl,rg,by omega⟩,?_⟩
   ·rw[hmk] at hD
    obtain⟨q1,q2,q3⟩:=hms D hD
    rw[hW1.keep.block D q1,hbw]; exact q2
   ·rw[hmk] at hk
    have h1:=(ov.heap hW1).others hW1 hk fun D hD=>⟨(hms D hD).1,(hms D hD).2.2⟩
    have h2:HeapOk ⟨b,N,st,nt0,mk0⟩ (lkE gm gl B l.length bc met 0 Af fs.length cf (fsV fs)++[.cells gb 61 [.ptr 1 0],.gone g4,.cells gt 98 [.own 6 0],.own 68 0 2 At 0 ct (spotsV [])]) W2:=h1
    exact lkE_ver 1 (h2.pre fun e he=>List.all_eq_true.1 (show List.all (lkE gm gl B l.length bc met 0 Af fs.length cf (fsV fs)) (scpO 3)=true from rfl) e he)
  | cons s rest =>
   have hs0:0≤s.1:=by
    obtain⟨b0,hb0⟩:=inv.todo s (by simp)
    exact (inv.range s b0 hb0).1
   have hdr:((spotsV (s :: rest)).drop (1*2)).take (rest.length*2)=spotsV rest:=by
    show (spotsV rest).take (rest.length*2)=_
    rw[List.take_of_length_le (by rw[spotsV_len]; exact Nat.le_refl _)]
   (refine Y_goM 600 ?_; dsimp only[go_sem,Nat.reduceBEq,reduceAdd,Int.reduceToNat,Nat.reduceMul])
   refine⟨fun _=>⟨⟨by omega,by omega⟩,s.1,rfl,s.2,rfl,fun ga=>⟨⟨by omega,by omega⟩,fun hge=>?_,fun hlt=>?_⟩⟩,fun h=>absurd h (by simp)⟩
   ·have hge:=of_decide_eq_true hge
    refine zj02 fun a W rep=>?_
    have rep1:=((rep.winH (i:=6) 1 rest.length rfl (by omega)).cellsTo 5 rfl (isl_own1 (i:=6) rfl)).res
    have hno:l[s.1.toNat]? = none:=by rw[List.getElem?_eq_none_iff]; omega
    have hst:stepW l s ⟨met,rest,fs⟩=⟨met,rest,fs⟩:=by unfold stepW; rw[hno]
    have hinv:=inv.step hl (s:=s) (rest:=rest) rfl
    have hmu:=step_mu hl inv (s:=s) (rest:=rest) rfl
    rw[hst] at hinv hmu
    have hmu':mu ⟨met,rest,fs⟩ < mu ⟨met,s :: rest,fs⟩:=hmu
    have rep2:Rep E { F:=[(1,.ptr 3 0),(2,.ptr 5 0)],H:=HL gm gl B l.length bc gb g4 gt ⟨met,rest,fs,Af,cf,subA At ct 1 2,ct - 1,bw,ms⟩ } a W:=by
     refine rep1.le ?_ ?_
     ·(simp only[go_sem,lk,Nat.reduceBEq,reduceLT,reduceAdd] <;> try simp)
     ·(simp only[go_sem,lk,Nat.reduceBEq,reduceLT,reduceAdd] <;> try simp)
      exact hdr
    exact again0 ⟨met,rest,fs,Af,cf,subA At ct 1 2,ct - 1,bw,ms⟩ hinv rg (by show fs.length+4*mu ⟨met,rest,fs⟩≤_; omega) hmu' a W rep2
   ·have hlt:=of_decide_eq_false hlt
    have hil:s.1.toNat < l.length:=by omega
    have hx:l[s.1.toNat]? = some l[s.1.toNat]:=List.getElem?_eq_getElem hil
    have cl:∀ k v,k < 5→(l[s.1.toNat]).cells[k]? = some v→CellAt E B (s.1.toNat*5+k) v:=fun k v hk hv=>hB'.cell (by rw[zj0y l hil hk]; exact hv)
    have hBs:B.isSome=true:=hB'.isSome (j:=s.1.toNat*5) (by rw[zj0o]; omega)
    refine⟨⟨by omega,by omega,hBs⟩,_,cl 0 _ (by omega) rfl,_,cl 1 _ (by omega) rfl,_,cl 2 _ (by omega) rfl,_,cl 3 _ (by omega) rfl,_,cl 4 _ (by omega) rfl,fun gx=>?_⟩
    generalize hxx:l[s.1.toNat]=x at *
    have hmu:=step_mu hl inv (s:=s) (rest:=rest) rfl
    have hinv:=inv.step hl (s:=s) (rest:=rest) rfl
    have hsw:stepW l s ⟨met,rest,fs⟩=if legalB x=true then (nxt x s).foldl (meet l.length ((get met s).getD 0#8 ||| setsB x) s.1) ⟨met,rest,fs++(fnd x s).map (·,s.1)⟩ else ⟨met,rest,fs++[(1,s.1)]⟩:=by unfold stepW; rw[hx]
    refine G.le (E':=E) (s':={ F:=[(1,.ptr 3 0),(2,.ptr 5 0),(3,.ptr 7 0),(4,.ptr 8 0),(40,.agg (In.sv x))],H:=HL gm gl B l.length bc gb g4 gt ⟨met,rest,fs,Af,cf,subA At ct 1 2,ct - 1,bw,ms⟩++[.cells ga 68 [.val (.int .i64 s.1),.val (.bool s.2)],.cells gx 47 (In.sv x)] }) rfl (fun a W rep=>?_) ?_
    ·refine ((rep.winH (i:=6) 1 rest.length rfl (by omega)).cellsTo 5 rfl (isl_own1 (i:=6) rfl)).res.le ?_ ?_
     ·simp only[In.sv]; (simp only[go_sem,lk,Nat.reduceBEq,reduceLT,reduceAdd] <;> try simp)
     ·simp only[In.sv]; (simp only[go_sem,lk,Nat.reduceBEq,reduceLT,reduceAdd] <;> try simp)
      exact hdr
    refine zj00 (vs:=[In.val x]) rfl (fun W hW=>zj19 x W (hG'.at hW)) fun v hv=>⟨.val (.bool (legalB x)),by rw[hv]; simp[Is],?_⟩
    (refine Y_goM 600 ?_; dsimp only[go_sem,Nat.reduceBEq,reduceAdd])
    refine⟨fun hlg=>?_,fun hlg=>?_⟩
    ·have hlg:legalB x=false:=by simpa using hlg
     rw[hsw,if_neg (by rw[hlg]; decide)] at hmu hinv
     refine zj0h (C:=cxM Tryz.prog Tryz.f19 K19 T19 R) rfl (gm:=gm) (gl:=gl) (B:=B) (bn:=l.length) (bc:=bc) (m:=met) (k:=0) (A:=Af) (n:=fs.length) (c:=cf) (xs:=fsV fs) (cd:=1) (p:=s.1) (r:=[.cells gb 61 [.ptr 1 0],.gone g4,.cells gt 98 [.own 6 0],.own 68 0 2 (subA At ct 1 2) rest.length (ct - 1) (spotsV rest),.cells ga 68 [.val (.int .i64 s.1),.val (.bool s.2)],.cells gx 47 (In.sv x)]) (by omega) ?_ fun A' c'=>zj0z ?_
     ·rfl
     (refine Y_goM 600 ?_; dsimp only[go_sem,reduceAdd,lkE,Nat.reduceBEq])
     refine zj02 fun a W rep=>?_
     have hmu':mu ⟨met,rest,fs++[(1,s.1)]⟩ < mu ⟨met,s :: rest,fs⟩:=hmu
     have hfl:(fs++[(1,s.1)]).length=fs.length+1:=by simp
     refine again0 ⟨met,rest,fs++[(1,s.1)],A',c',subA At ct 1 2,ct - 1,bw,ms⟩ hinv rg (by show (fs++[(1,s.1)]).length+4*mu ⟨met,rest,fs++[(1,s.1)]⟩≤_; omega) hmu' a W (rep.res.le ?_ ?_)
     ·simp only[In.sv]; (simp only[go_sem,lk,Nat.reduceBEq,reduceLT,reduceAdd] <;> try simp)
     ·simp only[In.sv]; (simp only[go_sem,lk,Nat.reduceBEq,reduceLT,reduceAdd] <;> try simp)
      rw[zj40]; rfl
    ·have hlg:legalB x=true:=by simpa using hlg
     rw[hsw,if_pos hlg] at hmu hinv
     have hQ:zj0e (zj79 Tryz.prog Tryz.f19 R):=zj1z _ _ _
     obtain⟨b0,hb0⟩:=inv.todo s (by simp)
     have hb0:get met s=some b0:=hb0
     have hs1:=inv.range s b0 hb0
     have hset:(get met s).getD 0#8 ||| setsB x=b0 ||| setsB x:=by rw[hb0]; rfl
     rw[hset] at hmu hinv
     have hgetA:=zj5f met s
     rw[hb0] at hgetA
     have hfit:fitV [.int .i64,.bool] (spotV s)=true∧∀ p ∈ metV met,fitV [.int .i64,.bool] p.1=true:=⟨zj5g hs1.1 hs1.2,fit_met rg⟩
     have cont:∀ gs F,leF 10 F [(1,.ptr 3 0),(2,.ptr 5 0),(3,.ptr 7 0),(4,.ptr 8 0),(5,.ptr 9 0),(56,.ptr 1 0),(57,.agg [.val (.int .i64 s.1),.val (.bool s.2)])]→G (cxM Tryz.prog Tryz.f19 K19 T19 R) E [.ops [{ dst:=some 58,guard:=none,i:=.call 43 [.tmp 56,.tmp 57] }],.code (.ref 9),.blk 1,.lend I,.blk 0]
       { F:=F,H:=HL gm gl B l.length bc gb g4 gt ⟨met,rest,fs,Af,cf,subA At ct 1 2,ct - 1,bw,ms⟩++[.cells ga 68 [.val (.int .i64 s.1),.val (.bool s.2)],.cells gx 47 (In.sv x),.cells gs 5 [.val (.int .u8 (b0 ||| setsB x).toNat)]] }:=by
      intro gs F hF
      obtain⟨eb,eN,est,ent,ems⟩:=E
      simp only at hnt hmk hbw
      subst hnt
      subst hmk
      refine G.le (E':=⟨eb,eN,est,108,ems⟩) (s':={ F:=[(1,.ptr 3 0),(2,.ptr 5 0),(3,.ptr 7 0),(4,.ptr 8 0),(5,.ptr 9 0),(56,.ptr 1 0),(57,.agg [.val (.int .i64 s.1),.val (.bool s.2)])],H:=HL gm gl B l.length bc gb g4 gt ⟨met,rest,fs,Af,cf,subA At ct 1 2,ct - 1,bw,ems⟩++[.cells ga 68 [.val (.int .i64 s.1),.val (.bool s.2)],.cells gx 47 (In.sv x),.cells gs 5 [.val (.int .u8 (b0 ||| setsB x).toNat)]] }) rfl (fun a W rep=>rep.le hF (by simp only[In.sv]; (simp only[go_sem,lk,Nat.reduceBEq,reduceLT,reduceAdd] <;> try simp))) ?_
      refine zj0b (vs:=[.pointer (some ⟨gl,0,none⟩),spotV s]) ?_ (R:=fun W v W'=>∃ g1 g2 g3,v=.func (.func 69) #[] #[.pointer (some ⟨g1,0,none⟩),.pointer (some ⟨g2,0,none⟩),.pointer (some ⟨g3,0,none⟩)]∧(W.heap.size≤g1∧W.heap.size≤g2∧W.heap.size≤g3)∧(g1 ≠ g2∧g1 ≠ g3∧g2 ≠ g3) ∧
       (W'.heap[g1]? = some (.cells #[.int .i64 s.1,.bool s.2] 68 (0,0))∧W'.heap[g2]? = some (.cells x.cells.toArray 47 (0,0))∧W'.heap[g3]? = some (.cells #[.pointer (some ⟨gl,0,none⟩)] 61 (0,0)))∧Fresh W W') (fun W hW=>on73 (some ⟨gl,0,none⟩) B l.length bc (.map (some gm)) (.slice Af fs.length cf) l s x W (hW.cellsAt (i:=1) rfl rfl) (hB'.at hW) rfl hs0 (by rw[hx]) ) fun W v W' hW hr=>?_
      ·rfl
      obtain⟨g1,g2,g3,rfl,⟨q1,q2,q3⟩,⟨n12,n13,n23⟩,⟨c1,c2,c3⟩,hfr⟩:=hr
      have nold:∀ g,W.heap.size≤g→¬ Env.old ⟨eb,eN,est,108,ems⟩ g:=fun g hg ho=>by have:=ho.1; have:=hW.floor; omega
      have flt:∀ g,W.heap.size≤g→g ∉ fps (HL gm gl B l.length bc gb g4 gt ⟨met,rest,fs,Af,cf,subA At ct 1 2,ct - 1,bw,ems⟩++[.cells ga 68 [.val (.int .i64 s.1),.val (.bool s.2)],.cells gx 47 (In.sv x),.cells gs 5 [.val (.int .u8 (b0 ||| setsB x).toNat)]]):=fun g hg hm=>by have:=hW.fps_lt hm; omega
      have h0:=hW.freshK hfr
      have h1:=h0.cellF (l:=[.val (.int .i64 s.1),.val (.bool s.2)]) c1 (nold _ q1) (flt _ q1) (by simp[IsL,Is])
      have h2:=h1.cellF (l:=In.sv x) c2 (nold _ q2) (by rw[zj64,List.mem_append,List.mem_singleton]; exact fun h=>h.elim (flt _ q2) (fun e=>n12 e.symm)) (by simp[IsL,Is,In.sv,In.cells])
      have h3:=h2.cellF (l:=[.val (.pointer (some ⟨gl,0,none⟩))]) c3 (nold _ q3) (by rw[zj64,zj64,List.mem_append,List.mem_append,List.mem_singleton,List.mem_singleton]; exact fun h=>h.elim (fun h=>h.elim (flt _ q3) (fun e=>n13 e.symm)) (fun e=>n23 e.symm)) (by simp[IsL,Is])
      refine⟨.fn (.func 69) [] [.ptr 10 0,.ptr 11 0,.ptr 12 0],_,?_,(HExt.app _ _).trans' ((HExt.app _ _).trans' (HExt.app _ _)),h3,?_⟩
      ·simp[Is,IsL,blk,nth]
      refine G.le (E':=⟨eb,eN,est,108,ems⟩) (s':={ F:=[(1,.ptr 3 0),(2,.ptr 5 0),(3,.ptr 7 0),(4,.ptr 8 0),(5,.ptr 9 0),(58,.fn (.func 69) [] [.ptr 10 0,.ptr 11 0,.ptr 12 0])],H:=H0 ⟨gm,gl,B,l.length,bc,gb,g4,gt,ga,gx,gs,g1,g2,g3,0,0,s,x,b0 ||| setsB x⟩ ⟨met,rest,fs⟩ ⟨0,0,Af,cf,subA At ct 1 2,ct - 1⟩ }) rfl (fun a W rep=>rep.le ?_ ?_) ?_
      ·simp only[putF]; (simp only[go_sem,lk,Nat.reduceBEq,reduceLT,reduceAdd] <;> try simp)
      ·simp only[In.sv]; (simp only[go_sem,lk,Nat.reduceBEq,reduceLT,reduceAdd] <;> try simp)
       exact⟨rfl,rfl⟩
      refine zj0z ?_
      (refine Y_goM 600 ?_; dsimp only[go_sem])
      refine zj34 rfl rfl (gf:=69) (caps:=[.pointer (some ⟨g1,0,none⟩),.pointer (some ⟨g2,0,none⟩),.pointer (some ⟨g3,0,none⟩)]) rfl rfl ?_
      intro D lno rec hrec R' hendR _ W1 hW1
      let w2:WG:=⟨gm,gl,B,l.length,bc,gb,g4,gt,ga,gx,gs,g1,g2,g3,D,lno,s,x,b0 ||| setsB x⟩
      have hrgn:∀ n ∈ nxt x s,0≤n.1∧n.1≤1024:=fun n hn=>zj3l hs0 hx hl hn
      have htl:rest.length≤50000000:=by
       have h9:(s :: rest).length≤mu ⟨met,s :: rest,fs⟩:=by
        show (s :: rest).length≤2*total met+(s :: rest).length
        omega
       simp only[List.length_cons] at h9
       omega
      refine iter103 (b:=eb) (N:=eN) (stl:=est) (mk:=ems) w2 ⟨met,rest,fs⟩ ⟨0,0,Af,cf,subA At ct 1 2,ct - 1⟩ rec W1 ⟨hs0,by show s.1 < 1024; omega⟩ hrgn rg (by show fs.length≤_; omega) htl rfl rfl hrec (fun q' hk' hv' r W3 h3=>hendR (lkE w2.gm w2.gl w2.B w2.bn w2.bc (goSt w2 ⟨met,rest,fs⟩).met q'.k q'.Af (goSt w2 ⟨met,rest,fs⟩).fs.length q'.cf (fsV (goSt w2 ⟨met,rest,fs⟩).fs)++(HM w2 (goSt w2 ⟨met,rest,fs⟩) q' (.loop rec)++r)) _ W3 ?_ ?_ h3 ?_) hW1
      ·rfl
      ·refine h0_ext2 w2 ⟨met,rest,fs⟩ (goSt w2 ⟨met,rest,fs⟩) ⟨0,0,Af,cf,subA At ct 1 2,ct - 1⟩ q' _ r ⟨?_,?_⟩
       ·rcases Nat.eq_zero_or_pos q'.k with e | e
        ·exact .inl ⟨e,hk' e⟩
        ·exact .inr e
       ·rcases Nat.eq_zero_or_pos q'.v with e | e
        ·exact .inl ⟨e,hv' e⟩
        ·exact .inr e
      ·have hgo:goSt w2 ⟨met,rest,fs⟩=(nxt x s).foldl (meet l.length (b0 ||| setsB x) s.1) ⟨met,rest,fs++(fnd x s).map (·,s.1)⟩:=rfl
       have hfold:=fold_rg (len:=l.length) (set:=b0 ||| setsB x) (p:=s.1) (nxt x s) ⟨met,rest,fs++(fnd x s).map (·,s.1)⟩ rg hrgn
       rw[← hgo] at hmu hinv hfold
       generalize hst1:goSt w2 ⟨met,rest,fs⟩=st1 at *
       obtain⟨met1,todo1,fs1⟩:=st1
       have hnl:=nxt_len x s
       have hfl:=fnd_len x s
       have hf2:fs1.length≤(fs++(fnd x s).map (·,s.1)).length+(nxt x s).length:=hfold.2
       rw[List.length_append,List.length_map] at hf2
       have hmu':mu ⟨met1,todo1,fs1⟩ < mu ⟨met,s :: rest,fs⟩:=hmu
       (refine Y_goM 600 ?_; dsimp only[go_sem,lkE,HM,reduceAdd])
       refine zj02 fun a W rep=>?_
       have hDo:¬ Env.old ⟨eb,eN,est,108,ems⟩ D:=(rep.heap.fresh 13 _ D rfl rfl).2
       have hDh:W.heap[D]? = some (.deferred (some [])):=rep.heap.ents 13 _ rfl
       have rep15:Rep ⟨eb,eN,est,108,D :: ems⟩ { F:=[(1,.ptr 3 0),(2,.ptr 5 0)],H:=[.map gm (metV met1),.cells gl 64 [.val (.slice B l.length bc),.mp 0,.own 2 q'.k],.own 33 q'.k 2 q'.Af fs1.length q'.cf (fsV fs1),.cells gb 61 [.ptr 1 0],.gone g4,.cells gt 98 [.own 6 q'.v],.own 68 q'.v 2 q'.At todo1.length q'.ct (spotsV todo1)] } a W:=rep.le (by (simp only[go_sem,lk,Nat.reduceBEq,reduceLT,reduceAdd] <;> try simp)) (by (simp only[go_sem,lk,Nat.reduceBEq,reduceLT,reduceAdd] <;> try simp); exact⟨rfl,⟨rfl,rfl,rfl,rfl⟩,rfl,rfl,rfl⟩)
       have hDf:D ∉ fps (HL gm gl B l.length bc gb g4 gt ⟨met1,todo1,fs1,q'.Af,q'.cf,q'.At,q'.ct,bw,ems⟩):=by
        intro hm
        obtain⟨i,e,hi,he⟩:=zj1w.1 hm
        have hi7:i < 7:=nth_lt hi
        have key:∃ e':SO,nth ([.map gm (metV met1),.cells gl 64 [.val (.slice B l.length bc),.mp 0,.own 2 q'.k],.own 33 q'.k 2 q'.Af fs1.length q'.cf (fsV fs1),.cells gb 61 [.ptr 1 0],.gone g4,.cells gt 98 [.own 6 q'.v],.own 68 q'.v 2 q'.At todo1.length q'.ct (spotsV todo1)]:List SO) i=some e'∧e'.fp=e.fp:=by
         have:i=0∨i=1∨i=2∨i=3∨i=4∨i=5∨i=6:=by omega
         rcases this with rfl | rfl | rfl | rfl | rfl | rfl | rfl <;> (injection hi with hi; subst hi; exact⟨_,rfl,rfl⟩)
        obtain⟨e',he',hf'⟩:=key
        have hbig:nth _ i=some e':=zj04 (l':=[.cells ga 68 [.val (.int .i64 s.1),.val (.bool s.2)],.cells gx 47 (In.sv x),.cells gs 5 [.val (.int .u8 (b0 ||| setsB x).toNat)],.cells g1 68 [.val (.int .i64 s.1),.val (.bool s.2)],.cells g2 47 (In.sv x),.cells g3 61 [.val (.pointer (some ⟨gl,0,none⟩))],.obj D (.deferred (some [])),.obj lno (.loop { rec with state:=.exhausted })]++r) he'
        exact rep.heap.dist i 13 e' _ D (by omega) hbig rfl (by rw[hf']; exact he) rfl
       refine again ⟨met1,todo1,fs1,q'.Af,q'.cf,q'.At,q'.ct,bw,ems⟩ (D :: ems) hinv hfold.1 (by show fs1.length+4*mu ⟨met1,todo1,fs1⟩≤_; omega) hmu' ?_ [(1,.ptr 3 0),(2,.ptr 5 0)] [] a W ?_ ?_ ?_
       ·exact List.nodup_cons.2 ⟨fun hm=>hDo (hms D hm).1,nd⟩
       ·(simp only[go_sem,lk,Nat.reduceBEq,reduceLT,reduceAdd] <;> try simp)
       ·exact rep15.res.lq
       ·intro D' hD'
        rcases List.mem_cons.1 hD' with rfl | h
        ·exact .inr ⟨hDo,hDh,hDf⟩
        ·exact .inl h
     (refine alt_y rfl hQ 600 ?_; dsimp only[go_sem,In.sv,YT_k,YT_alt,YT_call,Nat.reduceBEq,reduceAdd])
     refine⟨hfit,_,hgetA,.val (.int .u8 b0.toNat),rfl,?_,fun gs=>?_⟩
     ·refine zj29 (vs:=[In.val x]) rfl (fun W hW=>sets72 x hlg W) fun v hv=>⟨.val (.int .u8 (setsB x).toNat),by rw[hv]; simp[Is,u8V],?_⟩
      (refine gt_y rfl hQ 600 ?_; dsimp only[go_sem,YT_still,Nat.reduceBEq,reduceAdd,YT_k,YT_done])
      exact⟨⟨rfl,zj06 rfl⟩,⟨rfl,zj06 rfl⟩,⟨rfl,zj06 rfl⟩,⟨hfit,_,hgetA,.val (.int .u8 b0.toNat),rfl,rfl,zj06 rfl⟩,_,or8 _ _,fun gs=>cont gs _ (by (simp only[go_sem,lk,Nat.reduceBEq,reduceLT,reduceAdd] <;> try simp))⟩
     ·refine zj29 (vs:=[In.val x]) rfl (fun W hW=>sets72 x hlg W) fun v hv=>⟨.val (.int .u8 (setsB x).toNat),by rw[hv]; simp[Is,u8V],?_⟩
      (refine gt_y rfl hQ 600 ?_; dsimp only[go_sem,YT_still,Nat.reduceBEq,reduceAdd,YT_k,YT_done])
      exact⟨⟨rfl,zj06 rfl⟩,⟨rfl,zj06 rfl⟩,⟨rfl,zj06 rfl⟩,⟨hfit,_,hgetA,.val (.int .u8 b0.toNat),rfl,rfl,zj06 rfl⟩,_,or8 _ _,cont gs _ (by (simp only[go_sem,lk,Nat.reduceBEq,reduceLT,reduceAdd] <;> try simp))⟩
end Go.Proofs.YtgghmmjoplddbaaGreatDoor
