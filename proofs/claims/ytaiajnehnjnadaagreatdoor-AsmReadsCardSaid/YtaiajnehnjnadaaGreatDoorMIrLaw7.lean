/- The walk: what a line says (shuntref10.Parse). -/
import Derived.Test.YtaiajnehnjnadaaGreatDoorMIrLaw5
import Derived.Test.YtaiajnehnjnadaaGreatDoorMIrPlain2
set_option linter.unusedSimpArgs false
set_option linter.unusedVariables false
set_option linter.unnecessarySimpa false
namespace Go.Proofs.YtaiajnehnjnadaaGreatDoor
open Go Go.Sx Go.Isa Go.Bk
open Nat (reduceAdd reduceLT)
set_option maxRecDepth 100000
structure KIn where
 k:Nat
 B:Option Addr
 d:Nat
 ns:List Int
set_option maxHeartbeats 4000000 in
theorem parse15 (s:List UInt8) (w:World) (hs:s.length≤100000):CallsV Tryz.prog 21 [.string ⟨⟨s⟩⟩] w fun v w'=>v=(match parseL s with | some y=>.tuple #[In.val y,.int .i64 0] | none=>.tuple #[In.val zeroI,.int .i64 2])∧Fresh w w':=by
 refine zj05 (keep:=K21) (nt:=153) (svs:=[.val (.string ⟨⟨s⟩⟩)]) Tryz.func21 x21 n21 (by simp) (by simp[IsL,Is]) fun R hR=>?_
 (refine Y_go 600 ?_; dsimp only[go_sem,reduceAdd,Nat.reduceBEq])
 intro g
 have fin:∀ F H (y:Option In),parseL s=y→denR H F [RV.cell 2 5 true,RV.tmp 3]=some [In.val (y.getD zeroI),.int .i64 (if y.isSome then 0 else 2)]→RetG (cxOf Tryz.prog Tryz.f21 K21 T21 R) ⟨w,w.heap.size,[],153,[]⟩ { F:=F,H:=H }:=by
  intro F H y hp hd
  exact ret_rv (vs:=[In.val (y.getD zeroI),.int .i64 (if y.isSome then 0 else 2)]) r21 rfl hd fun W hW=>hR _ _ ⟨by rw[hp]; cases y <;> rfl,hW.fresh'⟩
 have bad:∀ F H,(∀ y,in64 y→textL y ≠ s)→denR H F [RV.cell 2 5 true,RV.tmp 3]=some [In.val zeroI,.int .i64 2]→RetG (cxOf Tryz.prog Tryz.f21 K21 T21 R) ⟨w,w.heap.size,[],153,[]⟩ { F:=F,H:=H } :=
  fun F H hn hd=>fin F H none (parse_none hn) hd
 refine⟨fun hl=>bad _ _ (fun y hy h=>?_) rfl,fun hl=>?_⟩
 ·have h1:=text_len2 hy
  rw[h] at h1
  have:=of_decide_eq_true hl
  first | (rw[zj02] at this; omega) | (simp[ByteArray.size] at this; omega)
 refine zj2a (vs:=[.string ⟨⟨s⟩⟩]) rfl (fun W hW=>words38 s W hs) fun A c=>?_
 (refine Y_go 600 ?_; dsimp only[go_sem,reduceAdd,Nat.reduceBEq])
 obtain⟨w0,ps,hW⟩:∃ w0 ps,Il.spl [] s=w0 :: ps:=by
  obtain⟨w0,ps,_,h,_⟩:=Il.spl_jn s [] (by intro c hc; simp at hc)
  exact⟨w0,ps,h⟩
 have hlen:ps.length≤s.length:=spl_len hW
 have hpl:∀ (k:Nat) (p:List UInt8),ps[k]? = some p→p.length≤s.length:=fun k p hk=>spl_piece hW hk
 simp only[hW]
 have ops:∀ (ns:List Int) (B:Option Addr) (d:Nat),ns.length≤s.length→(∀ n ∈ ns,is64 n)→Il.spl [] s=w0 :: ns.map Lib.itoa→(∀ y,in64 y→textL y=s→plainB y=true) →
   G (cxOf Tryz.prog Tryz.f21 K21 T21 R) ⟨w,w.heap.size,[],153,[]⟩ [.code (.loop (.ref 28)),.blk 2,.code (.ref 29)] { F:=[(0,.val (.string ⟨⟨s⟩⟩)),(2,.ptr 0 0),(4,.own 1 0),(5,.own 2 0),(10,.val (.int .i64 1))],H:=[.cells g 43 [.val (.int .i64 0),.val (.int .i64 0),.val (.int .i64 0),.val (.int .i64 0),.val (.int .i64 0)],.own 9 0 1 A (w0 :: ps).length c ((w0 :: ps).map strV),.own 3 0 1 B ns.length d (ns.map (Value.int .i64))] }:=by
  intro ns B d hnl h64 hWn hraw
  refine zj09 (α:=Nat) (fun j=>1≤j∧j≤19∧∀ y,in64 y→textL y=s→(j:Int)≤y.op) (fun _=>⟨w,w.heap.size,[],153,[]⟩)
   (fun j=>{ F:=[(0,.val (.string ⟨⟨s⟩⟩)),(2,.ptr 0 0),(4,.own 1 0),(5,.own 2 0),(10,.val (.int .i64 (j:Int)))],H:=[.cells g 43 [.val (.int .i64 0),.val (.int .i64 0),.val (.int .i64 0),.val (.int .i64 0),.val (.int .i64 0)],.own 9 0 1 A (w0 :: ps).length c ((w0 :: ps).map strV),.own 3 0 1 B ns.length d (ns.map (Value.int .i64))] }) (fun j=>19 - j) (fun _=>rfl) ?start ?round
  case start =>
   intro a W rep
   refine⟨1,⟨Nat.le_refl _,by omega,fun y hy h=>?_⟩,rep.lq⟩
   have:=(zj3p hWn h64 hy h (hraw y hy h)).2.2
   rw[isOp,Bool.and_eq_true] at this
   have:=of_decide_eq_true this.1
   omega
  case round =>
   rintro j ⟨hj1,hj,hop⟩ I hI
   (refine Y_go 600 ?_; dsimp only[go_sem,Nat.reduceBEq,reduceAdd])
   refine⟨fun hlt=>?_,fun hge=>?_⟩
   ·have hlt:(j:Int)≤18:=of_decide_eq_true hlt
    have hio:isOp (j:Int)=true:=by simp[isOp]; omega
    refine zj00 (vs:=[.int .i64 j]) rfl (fun W hW=>shape29 j W) fun v hv=>?_
    obtain⟨⟨bA,bB,bC,bI⟩,hp,hA,hB,hC,hI',hn⟩:=grp hio
    dsimp only at hA hB hC hI' hn
    simp only[List.mem_cons,Prod.mk.injEq,List.not_mem_nil,or_false] at hp
    have next:(∀ y,in64 y→textL y=s→y.op ≠ j)→∀ a W,Rep ⟨w,w.heap.size,[],153,[]⟩ { F:=[(0,.val (.string ⟨⟨s⟩⟩)),(2,.ptr 0 0),(4,.own 1 0),(5,.own 2 0),(10,.val (.int .i64 ((j+1:Nat):Int)))],H:=[.cells g 43 [.val (.int .i64 0),.val (.int .i64 0),.val (.int .i64 0),.val (.int .i64 0),.val (.int .i64 0)],.own 9 0 1 A (w0 :: ps).length c ((w0 :: ps).map strV),.own 3 0 1 B ns.length d (ns.map (Value.int .i64))] } a W→I a W :=
     fun hno a W rep=>hI (j+1) ⟨by omega,by omega,fun y hy h=>by have:=hop y hy h; have:=hno y hy h; omega⟩ (by show 19 - (j+1) < 19 - j; omega) a W rep
    have nget:∀ k:Nat,k < ns.length→(ns.map (Value.int .i64))[k]? = some (.int .i64 (ns.getD k 0)):=by
     intro k hk
     rw[List.getElem?_map,List.getElem?_eq_getElem hk,List.getD_eq_getElem?_getD,List.getElem?_eq_getElem hk]; rfl
    have nz0:∀ k:Nat,ns.length≤k→ns[k]?.getD 0=0:=by
     intro k hk
     rw[List.getElem?_eq_none hk]; rfl
    have leaf:∀ (g1 g2:Nat) (S:List SV) (z:In),z=gs j ns→G (cxOf Tryz.prog Tryz.f21 K21 T21 R) ⟨w,w.heap.size,[],153,[]⟩ [.ops [XS.mk (some 148) none (.call 38 [.tmp 147]),XS.mk (some 149) none (.k (.mov (.tmp 0))),XS.mk (some 150) none (.k (.eqs .eql (.tmp 148) (.tmp 149)))],.code (.cond (.tmp 150) (.ref 17) .skip),.blk 3,.code (.ref 26),.lend I,.blk 2,.code (.ref 29)]
      { F:=[(147,.agg (In.sv z)),(0,.val (.string ⟨⟨s⟩⟩)),(2,.ptr 0 0),(4,.own 1 0),(5,.own 2 0),(10,.val (.int .i64 (j:Int))),(13,.ptr 4 0)],H:=[.cells g 43 [.val (.int .i64 0),.val (.int .i64 0),.val (.int .i64 0),.val (.int .i64 0),.val (.int .i64 0)],.own 9 0 1 A (w0 :: ps).length c ((w0 :: ps).map strV),.own 3 0 1 B ns.length d (ns.map (Value.int .i64)),.cells g1 81 S,.cells g2 43 (In.sv z)] }:=by
     intro g1 g2 S z hz
     have z64:in64 z:=by rw[hz]; exact gs64 ⟨by omega,by omega⟩ h64
     refine zj00 (vs:=[In.val z]) rfl (fun W hW=>text17 z W z64) fun v hv=>⟨.val (.string ⟨⟨textL z⟩⟩),by rw[hv]; simp[Is],?_⟩
     (refine Y_go 600 ?_; dsimp only[go_sem,In.sv,Nat.reduceBEq,reduceAdd])
     refine⟨fun he=>?_,fun he=>?_⟩
     ·rw[strEq] at he
      have he:=of_decide_eq_true he
      exact fin _ _ (some z) (by rw[← he]; exact zj4a z64) rfl
     ·rw[strEq] at he
      have he:=of_decide_eq_false he
      refine⟨((j+1:Nat):Int),.add64 (by omega) (by omega),zj01 fun a W rep=>next (fun y hy h ho=>?_) a W (rep.lq)⟩
      have h1:=(zj3p hWn h64 hy h (hraw y hy h)).2.1
      rw[ho,← hz] at h1
      rw[h1] at h
      exact he h
    have other:∀ b,strB .neq ⟨⟨wdL j⟩⟩ b=true→b=⟨⟨w0⟩⟩→∀ y,in64 y→textL y=s→y.op ≠ j:=by
     rintro b hb rfl y hy h ho
     have h1:=(zj3p hWn h64 hy h (hraw y hy h)).1
     rw[strNeq,ho.symm,h1] at hb
     simp at hb
    rcases hp with⟨rfl,rfl,rfl,rfl⟩ | ⟨rfl,rfl,rfl,rfl⟩ | ⟨rfl,rfl,rfl,rfl⟩ | ⟨rfl,rfl,rfl,rfl⟩ | ⟨rfl,rfl,rfl,rfl⟩ | ⟨rfl,rfl,rfl,rfl⟩
    ·refine⟨.tup [.agg [.val (.string ⟨⟨wdL j⟩⟩),.bf,.bf,.bf,.bf],.val (.bool (isOp j))],by rw[hv]; simp[Is,IsL,hasV,hA,hB,hC,hI'],?_⟩
     (refine Y_go 600 ?_; dsimp only[go_sem,Nat.reduceBEq,reduceAdd,Int.reduceToNat,Nat.reduceMul])
     intro g1
     refine⟨⟨by omega,by omega⟩,⟨⟨w0⟩⟩,rfl,fun hne=>⟨((j+1:Nat):Int),.add64 (by omega) (by omega),zj01 fun a W rep=>next (other _ hne rfl) a W (rep.lq)⟩,fun he g2=>?_⟩
     exact fun a W rep=>leaf g1 g2 [.val (.string ⟨⟨wdL j⟩⟩),.bf,.bf,.bf,.bf] ⟨j,0,0,0,0⟩ (by simp only[gs,hA,hB,hC,hI',if_true,if_false,Bool.false_eq_true]) a W (rep.le (by (simp only[go_sem,lk,Nat.reduceBEq,reduceLT,reduceAdd] <;> try simp) <;> exact⟨rfl,rfl⟩) (by (simp only[go_sem,lk,Nat.reduceBEq,reduceLT,reduceAdd] <;> try simp) <;> exact⟨rfl,rfl⟩))
    ·refine⟨.tup [.agg [.val (.string ⟨⟨wdL j⟩⟩),.bt,.bf,.bf,.bt],.val (.bool (isOp j))],by rw[hv]; simp[Is,IsL,hasV,hA,hB,hC,hI'],?_⟩
     (refine Y_go 600 ?_; dsimp only[go_sem,Nat.reduceBEq,reduceAdd,Int.reduceToNat,Nat.reduceMul])
     intro g1
     refine⟨⟨by omega,by omega⟩,⟨⟨w0⟩⟩,rfl,fun hne=>⟨((j+1:Nat):Int),.add64 (by omega) (by omega),zj01 fun a W rep=>next (other _ hne rfl) a W (rep.lq)⟩,fun he g2=>?_⟩
     refine⟨fun q0=>?_,fun q0=>?_⟩
     ·have t0:=of_decide_eq_true q0
      refine⟨⟨by omega,by omega⟩,ns.getD 0 0,nget 0 (by omega),(1:Int),.to (by omega) (by omega) (by omega),?_⟩
      refine⟨fun q1=>?_,fun q1=>?_⟩
      ·have t1:=of_decide_eq_true q1
       refine⟨⟨by omega,by omega⟩,ns.getD 1 0,nget 1 (by omega),?_⟩
       exact fun a W rep=>leaf g1 g2 [.val (.string ⟨⟨wdL j⟩⟩),.bt,.bf,.bf,.bt] ⟨j,ns.getD 0 0,0,0,ns.getD 1 0⟩ (by simp only[gs,hA,hB,hC,hI',if_true,if_false,Bool.false_eq_true]) a W (rep.le (by (simp only[go_sem,lk,Nat.reduceBEq,reduceLT,reduceAdd] <;> try simp) <;> exact⟨rfl,rfl⟩) (by (simp only[go_sem,lk,Nat.reduceBEq,reduceLT,reduceAdd] <;> try simp) <;> exact⟨rfl,rfl⟩))
      ·have t1:=of_decide_eq_false q1
       exact fun a W rep=>leaf g1 g2 [.val (.string ⟨⟨wdL j⟩⟩),.bt,.bf,.bf,.bt] ⟨j,ns.getD 0 0,0,0,0⟩ (by simp only[gs,hA,hB,hC,hI',if_true,if_false,Bool.false_eq_true]; simp[nz0 1 (by omega)]) a W (rep.le (by (simp only[go_sem,lk,Nat.reduceBEq,reduceLT,reduceAdd] <;> try simp) <;> exact⟨rfl,rfl⟩) (by (simp only[go_sem,lk,Nat.reduceBEq,reduceLT,reduceAdd] <;> try simp) <;> exact⟨rfl,rfl⟩))
     ·have t0:=of_decide_eq_false q0
      refine⟨fun q1=>?_,fun q1=>?_⟩
      ·have t1:=of_decide_eq_true q1
       exfalso; omega
      ·have t1:=of_decide_eq_false q1
       exact fun a W rep=>leaf g1 g2 [.val (.string ⟨⟨wdL j⟩⟩),.bt,.bf,.bf,.bt] ⟨j,0,0,0,0⟩ (by simp only[gs,hA,hB,hC,hI',if_true,if_false,Bool.false_eq_true]; simp[nz0 0 (by omega),nz0 1 (by omega)]) a W (rep.le (by (simp only[go_sem,lk,Nat.reduceBEq,reduceLT,reduceAdd] <;> try simp) <;> exact⟨rfl,rfl⟩) (by (simp only[go_sem,lk,Nat.reduceBEq,reduceLT,reduceAdd] <;> try simp) <;> exact⟨rfl,rfl⟩))
    ·refine⟨.tup [.agg [.val (.string ⟨⟨wdL j⟩⟩),.bt,.bt,.bf,.bf],.val (.bool (isOp j))],by rw[hv]; simp[Is,IsL,hasV,hA,hB,hC,hI'],?_⟩
     (refine Y_go 600 ?_; dsimp only[go_sem,Nat.reduceBEq,reduceAdd,Int.reduceToNat,Nat.reduceMul])
     intro g1
     refine⟨⟨by omega,by omega⟩,⟨⟨w0⟩⟩,rfl,fun hne=>⟨((j+1:Nat):Int),.add64 (by omega) (by omega),zj01 fun a W rep=>next (other _ hne rfl) a W (rep.lq)⟩,fun he g2=>?_⟩
     refine⟨fun q0=>?_,fun q0=>?_⟩
     ·have t0:=of_decide_eq_true q0
      refine⟨⟨by omega,by omega⟩,ns.getD 0 0,nget 0 (by omega),(1:Int),.to (by omega) (by omega) (by omega),?_⟩
      refine⟨fun q1=>?_,fun q1=>?_⟩
      ·have t1:=of_decide_eq_true q1
       refine⟨⟨by omega,by omega⟩,ns.getD 1 0,nget 1 (by omega),(2:Int),.to (by omega) (by omega) (by omega),?_⟩
       exact fun a W rep=>leaf g1 g2 [.val (.string ⟨⟨wdL j⟩⟩),.bt,.bt,.bf,.bf] ⟨j,ns.getD 0 0,ns.getD 1 0,0,0⟩ (by simp only[gs,hA,hB,hC,hI',if_true,if_false,Bool.false_eq_true]) a W (rep.le (by (simp only[go_sem,lk,Nat.reduceBEq,reduceLT,reduceAdd] <;> try simp) <;> exact⟨rfl,rfl⟩) (by (simp only[go_sem,lk,Nat.reduceBEq,reduceLT,reduceAdd] <;> try simp) <;> exact⟨rfl,rfl⟩))
      ·have t1:=of_decide_eq_false q1
       exact fun a W rep=>leaf g1 g2 [.val (.string ⟨⟨wdL j⟩⟩),.bt,.bt,.bf,.bf] ⟨j,ns.getD 0 0,0,0,0⟩ (by simp only[gs,hA,hB,hC,hI',if_true,if_false,Bool.false_eq_true]; simp[nz0 1 (by omega)]) a W (rep.le (by (simp only[go_sem,lk,Nat.reduceBEq,reduceLT,reduceAdd] <;> try simp) <;> exact⟨rfl,rfl⟩) (by (simp only[go_sem,lk,Nat.reduceBEq,reduceLT,reduceAdd] <;> try simp) <;> exact⟨rfl,rfl⟩))
     ·have t0:=of_decide_eq_false q0
      refine⟨fun q1=>?_,fun q1=>?_⟩
      ·have t1:=of_decide_eq_true q1
       exfalso; omega
      ·have t1:=of_decide_eq_false q1
       exact fun a W rep=>leaf g1 g2 [.val (.string ⟨⟨wdL j⟩⟩),.bt,.bt,.bf,.bf] ⟨j,0,0,0,0⟩ (by simp only[gs,hA,hB,hC,hI',if_true,if_false,Bool.false_eq_true]; simp[nz0 0 (by omega),nz0 1 (by omega)]) a W (rep.le (by (simp only[go_sem,lk,Nat.reduceBEq,reduceLT,reduceAdd] <;> try simp) <;> exact⟨rfl,rfl⟩) (by (simp only[go_sem,lk,Nat.reduceBEq,reduceLT,reduceAdd] <;> try simp) <;> exact⟨rfl,rfl⟩))
    ·refine⟨.tup [.agg [.val (.string ⟨⟨wdL j⟩⟩),.bt,.bt,.bt,.bf],.val (.bool (isOp j))],by rw[hv]; simp[Is,IsL,hasV,hA,hB,hC,hI'],?_⟩
     (refine Y_go 600 ?_; dsimp only[go_sem,Nat.reduceBEq,reduceAdd,Int.reduceToNat,Nat.reduceMul])
     intro g1
     refine⟨⟨by omega,by omega⟩,⟨⟨w0⟩⟩,rfl,fun hne=>⟨((j+1:Nat):Int),.add64 (by omega) (by omega),zj01 fun a W rep=>next (other _ hne rfl) a W (rep.lq)⟩,fun he g2=>?_⟩
     refine⟨fun q0=>?_,fun q0=>?_⟩
     ·have t0:=of_decide_eq_true q0
      refine⟨⟨by omega,by omega⟩,ns.getD 0 0,nget 0 (by omega),(1:Int),.to (by omega) (by omega) (by omega),?_⟩
      refine⟨fun q1=>?_,fun q1=>?_⟩
      ·have t1:=of_decide_eq_true q1
       refine⟨⟨by omega,by omega⟩,ns.getD 1 0,nget 1 (by omega),(2:Int),.to (by omega) (by omega) (by omega),?_⟩
       refine⟨fun q2=>?_,fun q2=>?_⟩
       ·have t2:=of_decide_eq_true q2
        refine⟨⟨by omega,by omega⟩,ns.getD 2 0,nget 2 (by omega),(3:Int),.to (by omega) (by omega) (by omega),?_⟩
        exact fun a W rep=>leaf g1 g2 [.val (.string ⟨⟨wdL j⟩⟩),.bt,.bt,.bt,.bf] ⟨j,ns.getD 0 0,ns.getD 1 0,ns.getD 2 0,0⟩ (by simp only[gs,hA,hB,hC,hI',if_true,if_false,Bool.false_eq_true]) a W (rep.le (by (simp only[go_sem,lk,Nat.reduceBEq,reduceLT,reduceAdd] <;> try simp) <;> exact⟨rfl,rfl⟩) (by (simp only[go_sem,lk,Nat.reduceBEq,reduceLT,reduceAdd] <;> try simp) <;> exact⟨rfl,rfl⟩))
       ·have t2:=of_decide_eq_false q2
        exact fun a W rep=>leaf g1 g2 [.val (.string ⟨⟨wdL j⟩⟩),.bt,.bt,.bt,.bf] ⟨j,ns.getD 0 0,ns.getD 1 0,0,0⟩ (by simp only[gs,hA,hB,hC,hI',if_true,if_false,Bool.false_eq_true]; simp[nz0 2 (by omega)]) a W (rep.le (by (simp only[go_sem,lk,Nat.reduceBEq,reduceLT,reduceAdd] <;> try simp) <;> exact⟨rfl,rfl⟩) (by (simp only[go_sem,lk,Nat.reduceBEq,reduceLT,reduceAdd] <;> try simp) <;> exact⟨rfl,rfl⟩))
      ·have t1:=of_decide_eq_false q1
       refine⟨fun q2=>?_,fun q2=>?_⟩
       ·have t2:=of_decide_eq_true q2
        exfalso; omega
       ·have t2:=of_decide_eq_false q2
        exact fun a W rep=>leaf g1 g2 [.val (.string ⟨⟨wdL j⟩⟩),.bt,.bt,.bt,.bf] ⟨j,ns.getD 0 0,0,0,0⟩ (by simp only[gs,hA,hB,hC,hI',if_true,if_false,Bool.false_eq_true]; simp[nz0 1 (by omega),nz0 2 (by omega)]) a W (rep.le (by (simp only[go_sem,lk,Nat.reduceBEq,reduceLT,reduceAdd] <;> try simp) <;> exact⟨rfl,rfl⟩) (by (simp only[go_sem,lk,Nat.reduceBEq,reduceLT,reduceAdd] <;> try simp) <;> exact⟨rfl,rfl⟩))
     ·have t0:=of_decide_eq_false q0
      refine⟨fun q1=>?_,fun q1=>?_⟩
      ·have t1:=of_decide_eq_true q1
       exfalso; omega
      ·have t1:=of_decide_eq_false q1
       refine⟨fun q2=>?_,fun q2=>?_⟩
       ·have t2:=of_decide_eq_true q2
        exfalso; omega
       ·have t2:=of_decide_eq_false q2
        exact fun a W rep=>leaf g1 g2 [.val (.string ⟨⟨wdL j⟩⟩),.bt,.bt,.bt,.bf] ⟨j,0,0,0,0⟩ (by simp only[gs,hA,hB,hC,hI',if_true,if_false,Bool.false_eq_true]; simp[nz0 0 (by omega),nz0 1 (by omega),nz0 2 (by omega)]) a W (rep.le (by (simp only[go_sem,lk,Nat.reduceBEq,reduceLT,reduceAdd] <;> try simp) <;> exact⟨rfl,rfl⟩) (by (simp only[go_sem,lk,Nat.reduceBEq,reduceLT,reduceAdd] <;> try simp) <;> exact⟨rfl,rfl⟩))
    ·refine⟨.tup [.agg [.val (.string ⟨⟨wdL j⟩⟩),.bt,.bt,.bf,.bt],.val (.bool (isOp j))],by rw[hv]; simp[Is,IsL,hasV,hA,hB,hC,hI'],?_⟩
     (refine Y_go 600 ?_; dsimp only[go_sem,Nat.reduceBEq,reduceAdd,Int.reduceToNat,Nat.reduceMul])
     intro g1
     refine⟨⟨by omega,by omega⟩,⟨⟨w0⟩⟩,rfl,fun hne=>⟨((j+1:Nat):Int),.add64 (by omega) (by omega),zj01 fun a W rep=>next (other _ hne rfl) a W (rep.lq)⟩,fun he g2=>?_⟩
     refine⟨fun q0=>?_,fun q0=>?_⟩
     ·have t0:=of_decide_eq_true q0
      refine⟨⟨by omega,by omega⟩,ns.getD 0 0,nget 0 (by omega),(1:Int),.to (by omega) (by omega) (by omega),?_⟩
      refine⟨fun q1=>?_,fun q1=>?_⟩
      ·have t1:=of_decide_eq_true q1
       refine⟨⟨by omega,by omega⟩,ns.getD 1 0,nget 1 (by omega),(2:Int),.to (by omega) (by omega) (by omega),?_⟩
       refine⟨fun q2=>?_,fun q2=>?_⟩
       ·have t2:=of_decide_eq_true q2
        refine⟨⟨by omega,by omega⟩,ns.getD 2 0,nget 2 (by omega),?_⟩
        exact fun a W rep=>leaf g1 g2 [.val (.string ⟨⟨wdL j⟩⟩),.bt,.bt,.bf,.bt] ⟨j,ns.getD 0 0,ns.getD 1 0,0,ns.getD 2 0⟩ (by simp only[gs,hA,hB,hC,hI',if_true,if_false,Bool.false_eq_true]) a W (rep.le (by (simp only[go_sem,lk,Nat.reduceBEq,reduceLT,reduceAdd] <;> try simp) <;> exact⟨rfl,rfl⟩) (by (simp only[go_sem,lk,Nat.reduceBEq,reduceLT,reduceAdd] <;> try simp) <;> exact⟨rfl,rfl⟩))
       ·have t2:=of_decide_eq_false q2
        exact fun a W rep=>leaf g1 g2 [.val (.string ⟨⟨wdL j⟩⟩),.bt,.bt,.bf,.bt] ⟨j,ns.getD 0 0,ns.getD 1 0,0,0⟩ (by simp only[gs,hA,hB,hC,hI',if_true,if_false,Bool.false_eq_true]; simp[nz0 2 (by omega)]) a W (rep.le (by (simp only[go_sem,lk,Nat.reduceBEq,reduceLT,reduceAdd] <;> try simp) <;> exact⟨rfl,rfl⟩) (by (simp only[go_sem,lk,Nat.reduceBEq,reduceLT,reduceAdd] <;> try simp) <;> exact⟨rfl,rfl⟩))
      ·have t1:=of_decide_eq_false q1
       refine⟨fun q2=>?_,fun q2=>?_⟩
       ·have t2:=of_decide_eq_true q2
        exfalso; omega
       ·have t2:=of_decide_eq_false q2
        exact fun a W rep=>leaf g1 g2 [.val (.string ⟨⟨wdL j⟩⟩),.bt,.bt,.bf,.bt] ⟨j,ns.getD 0 0,0,0,0⟩ (by simp only[gs,hA,hB,hC,hI',if_true,if_false,Bool.false_eq_true]; simp[nz0 1 (by omega),nz0 2 (by omega)]) a W (rep.le (by (simp only[go_sem,lk,Nat.reduceBEq,reduceLT,reduceAdd] <;> try simp) <;> exact⟨rfl,rfl⟩) (by (simp only[go_sem,lk,Nat.reduceBEq,reduceLT,reduceAdd] <;> try simp) <;> exact⟨rfl,rfl⟩))
     ·have t0:=of_decide_eq_false q0
      refine⟨fun q1=>?_,fun q1=>?_⟩
      ·have t1:=of_decide_eq_true q1
       exfalso; omega
      ·have t1:=of_decide_eq_false q1
       refine⟨fun q2=>?_,fun q2=>?_⟩
       ·have t2:=of_decide_eq_true q2
        exfalso; omega
       ·have t2:=of_decide_eq_false q2
        exact fun a W rep=>leaf g1 g2 [.val (.string ⟨⟨wdL j⟩⟩),.bt,.bt,.bf,.bt] ⟨j,0,0,0,0⟩ (by simp only[gs,hA,hB,hC,hI',if_true,if_false,Bool.false_eq_true]; simp[nz0 0 (by omega),nz0 1 (by omega),nz0 2 (by omega)]) a W (rep.le (by (simp only[go_sem,lk,Nat.reduceBEq,reduceLT,reduceAdd] <;> try simp) <;> exact⟨rfl,rfl⟩) (by (simp only[go_sem,lk,Nat.reduceBEq,reduceLT,reduceAdd] <;> try simp) <;> exact⟨rfl,rfl⟩))
    ·refine⟨.tup [.agg [.val (.string ⟨⟨wdL j⟩⟩),.bf,.bf,.bf,.bt],.val (.bool (isOp j))],by rw[hv]; simp[Is,IsL,hasV,hA,hB,hC,hI'],?_⟩
     (refine Y_go 600 ?_; dsimp only[go_sem,Nat.reduceBEq,reduceAdd,Int.reduceToNat,Nat.reduceMul])
     intro g1
     refine⟨⟨by omega,by omega⟩,⟨⟨w0⟩⟩,rfl,fun hne=>⟨((j+1:Nat):Int),.add64 (by omega) (by omega),zj01 fun a W rep=>next (other _ hne rfl) a W (rep.lq)⟩,fun he g2=>?_⟩
     refine⟨fun q0=>?_,fun q0=>?_⟩
     ·have t0:=of_decide_eq_true q0
      refine⟨⟨by omega,by omega⟩,ns.getD 0 0,nget 0 (by omega),?_⟩
      exact fun a W rep=>leaf g1 g2 [.val (.string ⟨⟨wdL j⟩⟩),.bf,.bf,.bf,.bt] ⟨j,0,0,0,ns.getD 0 0⟩ (by simp only[gs,hA,hB,hC,hI',if_true,if_false,Bool.false_eq_true]) a W (rep.le (by (simp only[go_sem,lk,Nat.reduceBEq,reduceLT,reduceAdd] <;> try simp) <;> exact⟨rfl,rfl⟩) (by (simp only[go_sem,lk,Nat.reduceBEq,reduceLT,reduceAdd] <;> try simp) <;> exact⟨rfl,rfl⟩))
     ·have t0:=of_decide_eq_false q0
      exact fun a W rep=>leaf g1 g2 [.val (.string ⟨⟨wdL j⟩⟩),.bf,.bf,.bf,.bt] ⟨j,0,0,0,0⟩ (by simp only[gs,hA,hB,hC,hI',if_true,if_false,Bool.false_eq_true]; simp[nz0 0 (by omega)]) a W (rep.le (by (simp only[go_sem,lk,Nat.reduceBEq,reduceLT,reduceAdd] <;> try simp) <;> exact⟨rfl,rfl⟩) (by (simp only[go_sem,lk,Nat.reduceBEq,reduceLT,reduceAdd] <;> try simp) <;> exact⟨rfl,rfl⟩))
   ·have hge:=of_decide_eq_false hge
    refine bad _ _ (fun y hy h=>?_) rfl
    have:=(zj3p hWn h64 hy h (hraw y hy h)).2.2
    rw[isOp,Bool.and_eq_true] at this
    have:=of_decide_eq_true this.2
    have:=hop y hy h
    omega
 refine zj09 (α:=KIn) (fun x=>x.ns.length=x.k∧x.k≤ps.length∧(∀ n ∈ x.ns,is64 n)∧ps=x.ns.map Lib.itoa++ps.drop x.k) (fun _=>⟨w,w.heap.size,[],153,[]⟩)
   (fun x=>{ F:=[(0,.val (.string ⟨⟨s⟩⟩)),(2,.ptr 0 0),(3,.val (.int .i64 0)),(4,.own 1 0),(5,.own 2 0),(6,.val (.int .i64 ((x.k:Int)+1)))],H:=[.cells g 43 [.val (.int .i64 0),.val (.int .i64 0),.val (.int .i64 0),.val (.int .i64 0),.val (.int .i64 0)],.own 9 0 1 A (w0 :: ps).length c ((w0 :: ps).map strV),.own 3 0 1 x.B x.ns.length x.d (x.ns.map (Value.int .i64))] }) (fun x=>ps.length - x.k) (fun _=>rfl) ?start ?round
 case start =>
  intro a W rep
  refine⟨⟨0,none,0,[]⟩,⟨rfl,Nat.zero_le _,by simp,by simp⟩,(rep.adopt 5 3 1 rfl).le ?_ ?_⟩ <;> (simp only[go_sem,lk,Nat.reduceBEq,reduceLT,reduceAdd] <;> try simp)
 case round =>
  rintro ⟨k,B,d,ns⟩ ⟨hns,hk,h64,hps⟩ I hI
  dsimp only at hns hk h64 hps
  (refine Y_go 600 ?_; dsimp only[go_sem,Nat.reduceBEq,Int.reduceToNat,Nat.reduceMul,reduceAdd])
  refine⟨fun hlt=>?_,fun hge=>?_⟩
  ·have hlt:k < ps.length:=by have:=of_decide_eq_true hlt; simp at this; omega
   have hget:ps[k]? = some ps[k]:=List.getElem?_eq_getElem hlt
   have hdrop:ps.drop k=ps[k] :: ps.drop (k+1):=List.drop_eq_getElem_cons hlt
   have hpk:=hpl k _ hget
   refine⟨⟨by omega,by simp; omega⟩,⟨⟨ps[k]⟩⟩,?_,?_⟩
   ·rw[show ((k:Int)+1).toNat*1=k+1 by omega,List.getElem?_cons_succ,List.getElem?_map,hget]; rfl
   refine zj00 (vs:=[.string ⟨⟨ps[k]⟩⟩]) rfl (fun W hW=>number39 ps[k] W (by omega)) fun v hv=>?_
   obtain⟨n,b,rfl,hn,ht,hf⟩:=hv
   refine⟨.tup [.val (.int .i64 n),.val (.bool b)],by simp[Is,IsL],?_⟩
   (refine Y_go 600 ?_; dsimp only[go_sem,Nat.reduceBEq,reduceAdd,Nat.reduceMul])
   refine⟨fun hb=>bad _ _ (no_num hW hget fun m h1 h2=>?_) rfl,fun hb g2=>⟨⟨by simp only[maxLen]; omega,by omega⟩,fun B1 d1=>⟨((k:Int)+1)+1,.add64 (by omega) (by omega),zj01 fun a W rep=>hI ⟨k+1,B1,d1,ns++[n]⟩ ⟨by simp[hns],hlt,?_,?_⟩ (by show ps.length - (k+1) < ps.length - k; omega) a W (rep.res.le ?_ ?_)⟩⟩⟩
   ·rw[hf m h1 h2] at hb; simp at hb
   ·intro x hx
    rcases List.mem_append.1 hx with hx | hx
    ·exact h64 x hx
    ·rw[List.mem_singleton.1 hx]; exact hn
   ·show ps=(ns++[n]).map Lib.itoa++ps.drop (k+1)
    rw[List.map_append,List.append_assoc]
    rw[hdrop] at hps
    rw[show [n].map Lib.itoa=[ps[k]] by rw[List.map_cons,ht (by simpa using hb)]; rfl]
    exact hps
   ·(simp only[go_sem,lk,Nat.reduceBEq,reduceLT,reduceAdd] <;> try simp)
   ·(simp only[go_sem,lk,Nat.reduceBEq,reduceLT,reduceAdd] <;> try simp)
  ·have hkl:k=ps.length:=by have:=of_decide_eq_false hge; simp at this; omega
   have hWn:Il.spl [] s=w0 :: ns.map Lib.itoa:=by
    rw[hkl,List.drop_length,List.append_nil] at hps
    rw[hW,← hps]
   refine⟨⟨by omega,by omega⟩,⟨⟨w0⟩⟩,rfl,fun hr=>?_,fun hr=>?_⟩
   ·have hr:w0=rawW:=by
     have:(decide (w0=[UInt8.ofNat 114,UInt8.ofNat 97,UInt8.ofNat 119]))=true:=by rw[← hr]; exact (strEq _ _).symm
     exact of_decide_eq_true this
    refine⟨fun h5=>?_,fun h5=>?_⟩
    ·have h5:ns.length=5:=by have:=eq_of_beq h5; omega
     obtain⟨n0,n1,n2,n3,n4,rfl⟩:∃ n0 n1 n2 n3 n4,ns=[n0,n1,n2,n3,n4]:=by
      match ns,h5 with
      | [n0,n1,n2,n3,n4],_=>exact⟨n0,n1,n2,n3,n4,rfl⟩
     refine⟨⟨by omega,by simp⟩,n0,rfl,⟨by omega,by simp⟩,n1,rfl,⟨by omega,by simp⟩,n2,rfl,⟨by omega,by simp⟩,n3,rfl,⟨by omega,by simp⟩,n4,rfl,fun g1=>?_⟩
     have hz:in64 ⟨n0,n1,n2,n3,n4⟩:=⟨h64 _ (by simp),h64 _ (by simp),h64 _ (by simp),h64 _ (by simp),h64 _ (by simp)⟩
     refine zj00 (vs:=[In.val ⟨n0,n1,n2,n3,n4⟩]) rfl (fun W hW=>text17 _ W hz) fun v hv=>⟨.val (.string ⟨⟨textL ⟨n0,n1,n2,n3,n4⟩⟩⟩),by rw[hv]; simp[Is],?_⟩
     (refine Y_go 600 ?_; dsimp only[go_sem,reduceAdd,Nat.reduceBEq])
     refine⟨fun he=>?_,fun he=>?_⟩
     ·rw[strEq] at he
      have he:=of_decide_eq_true he
      exact fin _ _ (some ⟨n0,n1,n2,n3,n4⟩) (by rw[← he]; exact zj4a hz) rfl
     ·rw[strEq] at he
      have he:=of_decide_eq_false he
      exact fun a W rep=>ops _ B d (by omega) h64 hWn (fun y hy h=>by
       cases hp:plainB y with
       | true=>rfl
       | false =>
        have:=(raw_of hWn h64 hy h hp).2
        simp only[List.cons.injEq] at this
        obtain⟨rfl,rfl,rfl,rfl,rfl,_⟩:=this
        exact absurd h he) a W (rep.lq)
    ·exact fun a W rep=>ops ns B d (by omega) h64 hWn (fun y hy h=>by
      cases hp:plainB y with
      | true=>rfl
      | false =>
       have:=(raw_of hWn h64 hy h hp).2
       rw[this] at h5; simp at h5) a W (rep.lq)
   ·exact fun a W rep => ops ns B d (by omega) h64 hWn (fun y hy h => by
        cases hp:plainB y with
        | true=>rfl
        | false =>
          have:=(raw_of hWn h64 hy h hp).1
          rw[this] at hr
          rw[strEq] at hr; exact absurd hr (by decide)) a W (rep.lq)
end Go.Proofs.YtaiajnehnjnadaaGreatDoor
