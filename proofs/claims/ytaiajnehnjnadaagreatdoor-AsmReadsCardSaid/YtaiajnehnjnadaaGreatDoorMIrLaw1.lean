/- The walk: a number's digits (shuntref10.Digits). -/
import Derived.Test.YtaiajnehnjnadaaGreatDoorMIrCode
import Derived.Test.YtaiajnehnjnadaaGreatDoorMAIlLaw2
set_option linter.unusedSimpArgs false
set_option linter.unusedVariables false
set_option linter.unnecessarySimpa false
namespace Go.Proofs.YtaiajnehnjnadaaGreatDoor
open Go Go.Sx Go.Isa Go.Dig
set_option maxRecDepth 100000
structure Ops (rest:Int) (s:List UInt8) (k:Nat):Prop where
 rem:DivOk .rem .i64 rest 10 (rest.tmod 10)
 neg:rest.tmod 10 < 0→ConvOk .i64 (0 - rest.tmod 10) ((rest.natAbs % 10:Nat):Int)
 nn:¬ rest.tmod 10 < 0→rest.tmod 10=((rest.natAbs % 10:Nat):Int)
 add:ArOk .add .i64 48 ((rest.natAbs % 10:Nat):Int) ((48+rest.natAbs % 10:Nat):Int)
 u8:ConvOk .u8 ((48+rest.natAbs % 10:Nat):Int) ((48+rest.natAbs % 10:Nat):Int)
 byt:[Value.int .u8 ((48+rest.natAbs % 10:Nat):Int)]=bytesV ⟨⟨[UInt8.ofNat (48+rest.natAbs % 10)]⟩⟩
 quo:DivOk .quo .i64 rest 10 (rest.tdiv 10)
 one:ArOk .add .i64 (k:Int) 1 ((k+1:Nat):Int)
 sz:(⟨⟨[UInt8.ofNat (48+rest.natAbs % 10)]⟩⟩:ByteArray).size+(⟨⟨s⟩⟩:ByteArray).size≤9223372036854775807
 sz1:(⟨⟨[UInt8.ofNat 45]⟩⟩:ByteArray).size+(⟨⟨s⟩⟩:ByteArray).size≤9223372036854775807
theorem ops {n rest:Int} {s:List UInt8} {k:Nat} (h:At n rest s k):Ops rest s k:=by
 have hl:=last_eq rest
 have hf:=h.fits
 have hlen:=h.len
 have hk:=h.k20
 have hm:rest.natAbs % 10 < 10:=Nat.mod_lt _ (by decide)
 unfold last at hl
 refine⟨⟨by omega,rfl⟩,fun hn=>?_,fun hn=>?_,?_,?_,?_,⟨by omega,?_⟩,?_,?_,?_⟩
 ·rw[if_pos hn] at hl
  have:=ConvOk.i64 (a:=0 - rest.tmod 10) (by omega) (by omega)
  rw[show ((rest.natAbs % 10:Nat):Int)=0 - rest.tmod 10 by omega]; exact this
 ·rw[if_neg hn] at hl; exact hl
 ·have:=ArOk.add64 (a:=48) (b:=((rest.natAbs % 10:Nat):Int)) (by omega) (by omega)
  rw[show ((48+rest.natAbs % 10:Nat):Int)=48+((rest.natAbs % 10:Nat):Int) by omega]; exact this
 ·exact ConvOk.u8 (by omega) (by omega)
 ·have e:(UInt8.ofNat (48+rest.natAbs % 10)).toNat=48+rest.natAbs % 10:=by
   rw[UInt8.toNat_ofNat']; omega
  show [Value.int .u8 _]=[Value.int .u8 ((UInt8.ofNat (48+rest.natAbs % 10)).toNat:Int)]
  rw[e]
 ·show rest.tdiv 10=IntKind.i64.wrap (rest.tdiv 10)
  have:=zj0q rest
  rw[IntKind.wrap_i64]; omega
 ·have:=ArOk.add64 (a:=(k:Int)) (b:=1) (by omega) (by omega)
  rw[show ((k+1:Nat):Int)=(k:Int)+1 by omega]; exact this
 ·first | (rw[zj02,zj02]; simp; omega) | (simp[ByteArray.size]; omega)
 ·first | (rw[zj02,zj02]; simp; omega) | (simp[ByteArray.size]; omega)
theorem zj0d (n:Int) (w:World) (h0 : -9223372036854775808≤n) (h1:n≤9223372036854775807):CallsV Tryz.prog 59 [.int .i64 n] w fun v w'=>v=.string ⟨⟨Lib.itoa n⟩⟩∧Fresh w w':=by
 refine zj05 (keep:=K59) (nt:=40) (svs:=[.val (.int .i64 n)]) Tryz.func59 x59 n59 (by simp) (by simp[IsL,Is]) fun R hR=>?_
 (refine Y_go 600 ?_; dsimp only[go_sem,Nat.reduceAdd,Nat.reduceBEq])
 refine zj09 (α:=Int × List UInt8 × Nat) (fun a=>At n a.1 a.2.1 a.2.2) (fun _=>⟨w,w.heap.size,[],40,[]⟩)
  (fun a=>{ F:=[(0,.val (.int .i64 n)),(3,.val (.string ⟨⟨a.2.1⟩⟩)),(4,.val (.int .i64 a.1)),(5,.val (.int .i64 a.2.2))],H:=[] }) (fun a=>20 - a.2.2) (fun _=>rfl) ?start ?round
 case start =>
  intro a W rep
  exact⟨(n,[],0),Dig.start h0 h1,rep.lq⟩
 case round =>
  rintro ⟨rest,s,k⟩ hA I hI
  (refine Y_go 600 ?_; dsimp only[go_sem,Nat.reduceBEq,Nat.reduceMul])
  have o:=ops hA
  have hk20:=hA.k20
  have fin:¬ (k < 20∧(k=0∨rest ≠ 0))→Lib.itoa n=if n < 0 then 45 :: s else s:=fun hg=>by rw[itoa_eq,Dig.stop hA hg]
  have neg:∀ F H,Lib.itoa n=(if n < 0 then 45 :: s else s)→n < 0→denAll H F [2]=some [.string ((⟨⟨[UInt8.ofNat 45]⟩⟩:ByteArray)++⟨⟨s⟩⟩)]→RetG (cxOf Tryz.prog Tryz.f59 K59 T59 R) ⟨w,w.heap.size,[],40,[]⟩ { F:=F,H:=H }:=fun F H hi hn hd =>
   zj03 r59 rfl hd fun W hW=>hR _ _ ⟨by rw[hi,if_pos hn,zj04]; rfl,hW.fresh'⟩
  have pos:∀ F H,Lib.itoa n=(if n < 0 then 45 :: s else s)→¬ n < 0→denAll H F [2]=some [.string ⟨⟨s⟩⟩]→RetG (cxOf Tryz.prog Tryz.f59 K59 T59 R) ⟨w,w.heap.size,[],40,[]⟩ { F:=F,H:=H }:=fun F H hi hn hd =>
   zj03 r59 rfl hd fun W hW=>hR _ _ ⟨by rw[hi,if_neg hn]; rfl,hW.fresh'⟩
  have fr:∀ (g:Nat) (x y z:SV) (W:World) (a:Act),(k < 20∧(k=0∨rest ≠ 0))→Rep ⟨w,w.heap.size,[],40,[]⟩ { F:=[(0,SV.val (Value.int IntKind.i64 n)),(3,SV.val (Value.string ((⟨⟨[UInt8.ofNat (48+rest.natAbs % 10)]⟩⟩:ByteArray)++⟨⟨s⟩⟩))),(4,SV.val (Value.int IntKind.i64 (rest.tdiv 10))),(5,SV.val (Value.int IntKind.i64 ((k+1:Nat):Int))),(6,x),(17,y),(23,z)],H:=[SO.cells g 5 [SV.val (Value.int IntKind.u8 ((48+rest.natAbs % 10:Nat):Int))]] } a W→I a W:=fun g x y z W a hg rep =>
   hI (rest.tdiv 10,UInt8.ofNat (48+rest.natAbs % 10) :: s,k+1) (Dig.step hA hg.1 hg.2) (by dsimp only; omega) a W (by
    rw[zj04] at rep
    exact rep.lq)
  refine⟨fun hk=>⟨fun h0=>⟨_,o.rem,fun hn=>⟨_,o.neg (of_decide_eq_true hn),_,o.add,_,o.u8,fun g=>⟨_,o.byt,o.sz,_,o.quo,_,o.one,zj01 fun a W rep=>fr g _ _ _ W a ⟨by have:=of_decide_eq_true hk; omega,.inl (by simpa using h0)⟩ rep⟩⟩,fun hn=>?c1⟩,fun h0=>⟨fun hr=>⟨_,o.rem,fun hn=>⟨_,o.neg (of_decide_eq_true hn),_,o.add,_,o.u8,fun g=>⟨_,o.byt,o.sz,_,o.quo,_,o.one,zj01 fun a W rep=>fr g _ _ _ W a ⟨by have:=of_decide_eq_true hk; omega,.inr (by simpa using hr)⟩ rep⟩⟩,fun hn=>?c2⟩,fun hr=>⟨fun hn=>⟨o.sz1,neg _ _ (fin fun hg=>?c3) (of_decide_eq_true hn) rfl⟩,fun hn=>pos _ _ (fin fun hg=>?c4) (of_decide_eq_false hn) rfl⟩⟩⟩,fun hk=>⟨fun hn=>⟨o.sz1,neg _ _ (fin fun hg=>?c5) (of_decide_eq_true hn) rfl⟩,fun hn=>pos _ _ (fin fun hg=>?c6) (of_decide_eq_false hn) rfl⟩⟩
  case c1 =>
   rw[o.nn (of_decide_eq_false hn)]
   exact⟨_,o.add,_,o.u8,fun g=>⟨_,o.byt,o.sz,_,o.quo,_,o.one,zj01 fun a W rep=>fr g _ _ _ W a ⟨by have:=of_decide_eq_true hk; omega,.inl (by simpa using h0)⟩ rep⟩⟩
  case c2 =>
   rw[o.nn (of_decide_eq_false hn)]
   exact⟨_,o.add,_,o.u8,fun g=>⟨_,o.byt,o.sz,_,o.quo,_,o.one,zj01 fun a W rep=>fr g _ _ _ W a ⟨by have:=of_decide_eq_true hk; omega,.inr (by simpa using hr)⟩ rep⟩⟩
  case c3=>(have h0':(k:Int) ≠ 0:=by simpa using h0); (have hr':rest=0:=by simpa using hr); omega
  case c4=>(have h0':(k:Int) ≠ 0:=by simpa using h0); (have hr':rest=0:=by simpa using hr); omega
  case c5=>have:=of_decide_eq_false hk; omega
  case c6=>have:=of_decide_eq_false hk; omega
end Go.Proofs.YtaiajnehnjnadaaGreatDoor
namespace Go.Proofs.YtaiajnehnjnadaaGreatDoor
open Go Go.Sx Go.Isa
open Nat (reduceAdd reduceLT)
set_option maxRecDepth 100000
def hasV (op:Int) (wd:ByteArray):Value:=.agg #[.string wd,.bool (hasL op 65),.bool (hasL op 66),.bool (hasL op 67),.bool (hasL op 73)]
theorem wd_out {op:Int} (h:isOp op=false):wdL op=[]:=by
 have hn:¬ (1≤op∧op≤18):=by intro k; simp[isOp,k.1,k.2] at h
 unfold wdL
 rw[List.getD_eq_getElem?_getD]
 by_cases h0:op≤0
 ·rw[show op.toNat=0 by omega]; rfl
 ·rw[List.getElem?_eq_none (by show 19≤op.toNat; omega)]; rfl
set_option maxHeartbeats 8000000 in
theorem shape29 (op:Int) (w:World):CallsV Tryz.prog 39 [.int .i64 op] w fun v w'=>v=.tuple #[hasV op ⟨⟨wdL op⟩⟩,.bool (isOp op)]∧Fresh w w':=by
 refine zj05 (keep:=K39) (nt:=54) (svs:=[.val (.int .i64 op)]) Tryz.func39 x39 n39 (by simp) (by simp[IsL,Is]) fun R hR=>?_
 cases ho:isOp op with
 | true =>
  rcases zj0w ho with h | h | h | h | h | h | h | h | h | h | h | h | h | h | h | h | h | h <;> subst h
  all_goals (refine Y_go 600 ?_; dsimp only[go_sem,reduceAdd,Nat.reduceBEq,Nat.reduceMul])
  all_goals intro g
  all_goals simp only[Int.reduceBEq,Int.reduceBNe,Int.reduceToNat,Nat.reduceMul,reduceAdd,Int.reduceLT,Int.reduceLE,Int.reduceGT,Int.reduceGE,ge_iff_le,gt_iff_lt,Int.reduceSub,Int.reduceAdd,decide_true,decide_false,Bool.false_eq_true,Bool.true_eq_false,Bool.not_true,Bool.not_false,reduceCtorEq,false_implies,true_implies,forall_const,true_and,and_true]
  all_goals first | done | (exact ret_rv (vs:=[_,_]) r39 rfl rfl fun W hW=>hR _ _ ⟨rfl,hW.fresh'⟩) | skip
  all_goals intro g2
  ·refine⟨0,.toSub (by omega) (by omega) (by omega),⟨by omega,by omega⟩,?_⟩
   simp only[Int.reduceBEq,Int.reduceBNe,Int.reduceToNat,Nat.reduceMul,reduceAdd,Int.reduceLT,Int.reduceLE,Int.reduceGT,Int.reduceGE,ge_iff_le,gt_iff_lt,Int.reduceSub,Int.reduceAdd,decide_true,decide_false,Bool.false_eq_true,Bool.true_eq_false,Bool.not_true,Bool.not_false,reduceCtorEq,false_implies,true_implies,forall_const,true_and,and_true]
   dsimp only[go_sem,Nat.reduceBEq,reduceAdd]
   exact ret_rv (vs:=[_,_]) r39 rfl rfl fun W hW=>hR _ _ ⟨rfl,hW.fresh'⟩
  ·refine⟨1,.toSub (by omega) (by omega) (by omega),⟨by omega,by omega⟩,?_⟩
   simp only[Int.reduceBEq,Int.reduceBNe,Int.reduceToNat,Nat.reduceMul,reduceAdd,Int.reduceLT,Int.reduceLE,Int.reduceGT,Int.reduceGE,ge_iff_le,gt_iff_lt,Int.reduceSub,Int.reduceAdd,decide_true,decide_false,Bool.false_eq_true,Bool.true_eq_false,Bool.not_true,Bool.not_false,reduceCtorEq,false_implies,true_implies,forall_const,true_and,and_true]
   dsimp only[go_sem,Nat.reduceBEq,reduceAdd]
   exact ret_rv (vs:=[_,_]) r39 rfl rfl fun W hW=>hR _ _ ⟨rfl,hW.fresh'⟩
  ·refine⟨2,.toSub (by omega) (by omega) (by omega),⟨by omega,by omega⟩,?_⟩
   simp only[Int.reduceBEq,Int.reduceBNe,Int.reduceToNat,Nat.reduceMul,reduceAdd,Int.reduceLT,Int.reduceLE,Int.reduceGT,Int.reduceGE,ge_iff_le,gt_iff_lt,Int.reduceSub,Int.reduceAdd,decide_true,decide_false,Bool.false_eq_true,Bool.true_eq_false,Bool.not_true,Bool.not_false,reduceCtorEq,false_implies,true_implies,forall_const,true_and,and_true]
   dsimp only[go_sem,Nat.reduceBEq,reduceAdd]
   exact ret_rv (vs:=[_,_]) r39 rfl rfl fun W hW=>hR _ _ ⟨rfl,hW.fresh'⟩
  ·refine⟨3,.toSub (by omega) (by omega) (by omega),⟨by omega,by omega⟩,?_⟩
   simp only[Int.reduceBEq,Int.reduceBNe,Int.reduceToNat,Nat.reduceMul,reduceAdd,Int.reduceLT,Int.reduceLE,Int.reduceGT,Int.reduceGE,ge_iff_le,gt_iff_lt,Int.reduceSub,Int.reduceAdd,decide_true,decide_false,Bool.false_eq_true,Bool.true_eq_false,Bool.not_true,Bool.not_false,reduceCtorEq,false_implies,true_implies,forall_const,true_and,and_true]
   dsimp only[go_sem,Nat.reduceBEq,reduceAdd]
   exact ret_rv (vs:=[_,_]) r39 rfl rfl fun W hW=>hR _ _ ⟨rfl,hW.fresh'⟩
  ·refine⟨4,.toSub (by omega) (by omega) (by omega),⟨by omega,by omega⟩,?_⟩
   simp only[Int.reduceBEq,Int.reduceBNe,Int.reduceToNat,Nat.reduceMul,reduceAdd,Int.reduceLT,Int.reduceLE,Int.reduceGT,Int.reduceGE,ge_iff_le,gt_iff_lt,Int.reduceSub,Int.reduceAdd,decide_true,decide_false,Bool.false_eq_true,Bool.true_eq_false,Bool.not_true,Bool.not_false,reduceCtorEq,false_implies,true_implies,forall_const,true_and,and_true]
   dsimp only[go_sem,Nat.reduceBEq,reduceAdd]
   exact ret_rv (vs:=[_,_]) r39 rfl rfl fun W hW=>hR _ _ ⟨rfl,hW.fresh'⟩
  ·refine⟨5,.toSub (by omega) (by omega) (by omega),⟨by omega,by omega⟩,?_⟩
   simp only[Int.reduceBEq,Int.reduceBNe,Int.reduceToNat,Nat.reduceMul,reduceAdd,Int.reduceLT,Int.reduceLE,Int.reduceGT,Int.reduceGE,ge_iff_le,gt_iff_lt,Int.reduceSub,Int.reduceAdd,decide_true,decide_false,Bool.false_eq_true,Bool.true_eq_false,Bool.not_true,Bool.not_false,reduceCtorEq,false_implies,true_implies,forall_const,true_and,and_true]
   dsimp only[go_sem,Nat.reduceBEq,reduceAdd]
   exact ret_rv (vs:=[_,_]) r39 rfl rfl fun W hW=>hR _ _ ⟨rfl,hW.fresh'⟩
  ·refine⟨6,.toSub (by omega) (by omega) (by omega),⟨by omega,by omega⟩,?_⟩
   simp only[Int.reduceBEq,Int.reduceBNe,Int.reduceToNat,Nat.reduceMul,reduceAdd,Int.reduceLT,Int.reduceLE,Int.reduceGT,Int.reduceGE,ge_iff_le,gt_iff_lt,Int.reduceSub,Int.reduceAdd,decide_true,decide_false,Bool.false_eq_true,Bool.true_eq_false,Bool.not_true,Bool.not_false,reduceCtorEq,false_implies,true_implies,forall_const,true_and,and_true]
   dsimp only[go_sem,Nat.reduceBEq,reduceAdd]
   exact ret_rv (vs:=[_,_]) r39 rfl rfl fun W hW=>hR _ _ ⟨rfl,hW.fresh'⟩
  ·refine⟨0,.toSub (by omega) (by omega) (by omega),⟨by omega,by omega⟩,?_⟩
   simp only[Int.reduceBEq,Int.reduceBNe,Int.reduceToNat,Nat.reduceMul,reduceAdd,Int.reduceLT,Int.reduceLE,Int.reduceGT,Int.reduceGE,ge_iff_le,gt_iff_lt,Int.reduceSub,Int.reduceAdd,decide_true,decide_false,Bool.false_eq_true,Bool.true_eq_false,Bool.not_true,Bool.not_false,reduceCtorEq,false_implies,true_implies,forall_const,true_and,and_true]
   dsimp only[go_sem,Nat.reduceBEq,reduceAdd]
   exact ret_rv (vs:=[_,_]) r39 rfl rfl fun W hW=>hR _ _ ⟨rfl,hW.fresh'⟩
  ·refine⟨1,.toSub (by omega) (by omega) (by omega),⟨by omega,by omega⟩,?_⟩
   simp only[Int.reduceBEq,Int.reduceBNe,Int.reduceToNat,Nat.reduceMul,reduceAdd,Int.reduceLT,Int.reduceLE,Int.reduceGT,Int.reduceGE,ge_iff_le,gt_iff_lt,Int.reduceSub,Int.reduceAdd,decide_true,decide_false,Bool.false_eq_true,Bool.true_eq_false,Bool.not_true,Bool.not_false,reduceCtorEq,false_implies,true_implies,forall_const,true_and,and_true]
   dsimp only[go_sem,Nat.reduceBEq,reduceAdd]
   exact ret_rv (vs:=[_,_]) r39 rfl rfl fun W hW=>hR _ _ ⟨rfl,hW.fresh'⟩
  ·refine⟨3,.toSub (by omega) (by omega) (by omega),⟨by omega,by omega⟩,?_⟩
   simp only[Int.reduceBEq,Int.reduceBNe,Int.reduceToNat,Nat.reduceMul,reduceAdd,Int.reduceLT,Int.reduceLE,Int.reduceGT,Int.reduceGE,ge_iff_le,gt_iff_lt,Int.reduceSub,Int.reduceAdd,decide_true,decide_false,Bool.false_eq_true,Bool.true_eq_false,Bool.not_true,Bool.not_false,reduceCtorEq,false_implies,true_implies,forall_const,true_and,and_true]
   dsimp only[go_sem,Nat.reduceBEq,reduceAdd]
   exact ret_rv (vs:=[_,_]) r39 rfl rfl fun W hW=>hR _ _ ⟨rfl,hW.fresh'⟩
  ·refine⟨4,.toSub (by omega) (by omega) (by omega),⟨by omega,by omega⟩,?_⟩
   simp only[Int.reduceBEq,Int.reduceBNe,Int.reduceToNat,Nat.reduceMul,reduceAdd,Int.reduceLT,Int.reduceLE,Int.reduceGT,Int.reduceGE,ge_iff_le,gt_iff_lt,Int.reduceSub,Int.reduceAdd,decide_true,decide_false,Bool.false_eq_true,Bool.true_eq_false,Bool.not_true,Bool.not_false,reduceCtorEq,false_implies,true_implies,forall_const,true_and,and_true]
   dsimp only[go_sem,Nat.reduceBEq,reduceAdd]
   exact ret_rv (vs:=[_,_]) r39 rfl rfl fun W hW=>hR _ _ ⟨rfl,hW.fresh'⟩
  ·refine⟨5,.toSub (by omega) (by omega) (by omega),⟨by omega,by omega⟩,?_⟩
   simp only[Int.reduceBEq,Int.reduceBNe,Int.reduceToNat,Nat.reduceMul,reduceAdd,Int.reduceLT,Int.reduceLE,Int.reduceGT,Int.reduceGE,ge_iff_le,gt_iff_lt,Int.reduceSub,Int.reduceAdd,decide_true,decide_false,Bool.false_eq_true,Bool.true_eq_false,Bool.not_true,Bool.not_false,reduceCtorEq,false_implies,true_implies,forall_const,true_and,and_true]
   dsimp only[go_sem,Nat.reduceBEq,reduceAdd]
   exact ret_rv (vs:=[_,_]) r39 rfl rfl fun W hW=>hR _ _ ⟨rfl,hW.fresh'⟩
 | false =>
  have hn:∀ k:Int,1≤k→k≤18→(op == k)=false:=by
   intro k h1 h2
   rw[beq_eq_false_iff_ne]
   intro e; subst e; simp[isOp,h1,h2] at ho
  (refine Y_go 600 ?_; dsimp only[go_sem,reduceAdd,Nat.reduceBEq,Nat.reduceMul])
  intro g
  simp only[hn 1 (by omega) (by omega),hn 2 (by omega) (by omega),hn 3 (by omega) (by omega),hn 4 (by omega) (by omega),hn 5 (by omega) (by omega),hn 6 (by omega) (by omega),hn 7 (by omega) (by omega),hn 8 (by omega) (by omega),hn 9 (by omega) (by omega),hn 10 (by omega) (by omega),hn 11 (by omega) (by omega),hn 12 (by omega) (by omega),hn 13 (by omega) (by omega),hn 14 (by omega) (by omega),hn 15 (by omega) (by omega),hn 16 (by omega) (by omega),hn 17 (by omega) (by omega),hn 18 (by omega) (by omega)]
  simp only[Int.reduceBEq,Int.reduceBNe,Int.reduceToNat,Nat.reduceMul,reduceAdd,Int.reduceLT,Int.reduceLE,Int.reduceGT,Int.reduceGE,ge_iff_le,gt_iff_lt,Int.reduceSub,Int.reduceAdd,decide_true,decide_false,Bool.false_eq_true,Bool.true_eq_false,Bool.not_true,Bool.not_false,reduceCtorEq,false_implies,true_implies,forall_const,true_and,and_true]
  have e:∀ c,hasL op c=false:=by intro c; simp[hasL,nmL_out ho,Lib.indexByte]
  exact ret_rv (vs:=[_,_]) r39 rfl rfl fun W hW=>hR _ _ ⟨by simp only[hasV,e,ho,wd_out ho]; rfl,hW.fresh'⟩
theorem legal13 (x:In) (w:World):CallsV Tryz.prog 22 [In.val x] w fun v w'=>v=.bool (legalB x)∧Fresh w w':=by
 refine zj05 (keep:=K22) (nt:=42) (svs:=[.agg (In.sv x)]) Tryz.func22 x22 n22 (by simp) (by simp only[IsL]; exact⟨_,_,In.is _ x,rfl,rfl⟩) fun R hR=>?_
 (refine Y_go 600 ?_; dsimp only[go_sem,In.sv,reduceAdd,Nat.reduceBEq])
 intro g
 refine zj00 (vs:=[.int .i64 x.op]) rfl (fun W hW=>shape29 x.op W) fun v hv=>⟨.tup [.agg [.val (.string ⟨⟨wdL x.op⟩⟩),.val (.bool (hasL x.op 65)),.val (.bool (hasL x.op 66)),.val (.bool (hasL x.op 67)),.val (.bool (hasL x.op 73))],.val (.bool (isOp x.op))],by rw[hv]; simp[Is,IsL,hasV],?_⟩
 (refine Y_go 600 ?_; dsimp only[go_sem,Nat.reduceBEq,reduceAdd])
 intro g2
 have fin:∀ (b:Bool) F H,legalB x=b→denAll H F [2]=some [.bool b]→RetG (cxOf Tryz.prog Tryz.f22 K22 T22 R) ⟨w,w.heap.size,[],42,[]⟩ { F:=F,H:=H }:=by
  intro b F H hb hd
  refine zj03 (vs:=[.bool b]) r22 rfl hd fun W hW=>hR _ _ ⟨by rw[hb]; rfl,hW.fresh'⟩
 refine⟨fun h0=>?_,fun h0=>?_⟩
 rotate_left
 ·exact fin false _ _ (by simp[legalB,h0]) rfl
 ·refine⟨fun h1=>?_,fun h1=>?_⟩
  ·refine⟨fun h2=>?_,fun h2=>?_⟩
   ·refine⟨fun h3=>?_,fun h3=>?_⟩
    ·exact fin true _ _ (by simp_all [legalB]) rfl
    ·refine zj00 (vs:=[.int .i64 x.c]) rfl (fun W hW=>reg120 x.c W) fun v hv=>⟨.val (.bool (isReg x.c)),by rw[hv]; simp[Is],?_⟩
     (refine Y_go 600 ?_; dsimp only[go_sem,Nat.reduceBEq])
     exact fin (isReg x.c) _ _ (by simp_all [legalB]) rfl
   ·refine zj00 (vs:=[.int .i64 x.b]) rfl (fun W hW=>reg120 x.b W) fun v hv=>⟨.val (.bool (isReg x.b)),by rw[hv]; simp[Is],?_⟩
    (refine Y_go 600 ?_; dsimp only[go_sem,Nat.reduceBEq,reduceAdd])
    refine⟨fun e2=>?_,fun e2=>?_⟩
    ·refine⟨fun h3=>?_,fun h3=>?_⟩
     ·exact fin true _ _ (by simp_all [legalB]) rfl
     ·refine zj00 (vs:=[.int .i64 x.c]) rfl (fun W hW=>reg120 x.c W) fun v hv=>⟨.val (.bool (isReg x.c)),by rw[hv]; simp[Is],?_⟩
      (refine Y_go 600 ?_; dsimp only[go_sem,Nat.reduceBEq])
      exact fin (isReg x.c) _ _ (by simp_all [legalB]) rfl
    ·exact fin false _ _ (by simp_all [legalB]) rfl
  ·refine zj00 (vs:=[.int .i64 x.a]) rfl (fun W hW=>reg120 x.a W) fun v hv=>⟨.val (.bool (isReg x.a)),by rw[hv]; simp[Is],?_⟩
   (refine Y_go 600 ?_; dsimp only[go_sem,Nat.reduceBEq,reduceAdd])
   refine⟨fun e1=>?_,fun e1=>?_⟩
   ·refine⟨fun h2=>?_,fun h2=>?_⟩
    ·refine⟨fun h3=>?_,fun h3=>?_⟩
     ·exact fin true _ _ (by simp_all [legalB]) rfl
     ·refine zj00 (vs:=[.int .i64 x.c]) rfl (fun W hW=>reg120 x.c W) fun v hv=>⟨.val (.bool (isReg x.c)),by rw[hv]; simp[Is],?_⟩
      (refine Y_go 600 ?_; dsimp only[go_sem,Nat.reduceBEq])
      exact fin (isReg x.c) _ _ (by simp_all [legalB]) rfl
    ·refine zj00 (vs:=[.int .i64 x.b]) rfl (fun W hW=>reg120 x.b W) fun v hv=>⟨.val (.bool (isReg x.b)),by rw[hv]; simp[Is],?_⟩
     (refine Y_go 600 ?_; dsimp only[go_sem,Nat.reduceBEq,reduceAdd])
     refine⟨fun e2=>?_,fun e2=>?_⟩
     ·refine⟨fun h3=>?_,fun h3=>?_⟩
      ·exact fin true _ _ (by simp_all [legalB]) rfl
      ·refine zj00 (vs:=[.int .i64 x.c]) rfl (fun W hW=>reg120 x.c W) fun v hv=>⟨.val (.bool (isReg x.c)),by rw[hv]; simp[Is],?_⟩
       (refine Y_go 600 ?_; dsimp only[go_sem,Nat.reduceBEq])
       exact fin (isReg x.c) _ _ (by simp_all [legalB]) rfl
     ·exact fin false _ _ (by simp_all [legalB]) rfl
   ·exact fin false _ _ (by simp_all [legalB]) rfl
end Go.Proofs.YtaiajnehnjnadaaGreatDoor
