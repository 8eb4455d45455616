/- The document's ShapeOf and shifted. -/
import Derived.Test.YtlbiogokpadaoaaGreatDoorBgIsa1
import Derived.Test.YtlbiogokpadaoaaGreatDoorBgCodeThr
set_option linter.unusedSimpArgs false
set_option linter.unusedVariables false
set_option linter.unnecessarySimpa false
namespace Go.Proofs.YtlbiogokpadaoaaGreatDoor
open Go Go.Sx Go.Isa
open Nat (reduceAdd reduceLT)
set_option maxRecDepth 100000
def hasV (op:Int) (wd:ByteArray):Value:=.agg #[.string wd,.bool (hasL op 65),.bool (hasL op 66),.bool (hasL op 67),.bool (hasL op 73)]
set_option maxHeartbeats 8000000 in
theorem zj33 (op:Int) (w:World):CallsV Tryz.prog 119 [.int .i64 op] w fun v w'=>(∃ wd,v=.tuple #[hasV op wd,.bool (isOp op)])∧Fresh w w':=by
 refine zj03 (keep:=K119) (nt:=54) (svs:=[.val (.int .i64 op)]) Tryz.func119 x119 n119 (by simp) (by simp[IsL,Is]) fun R hR=>?_
 cases ho:isOp op with
 | true =>
  rcases zj2r ho with h | h | h | h | h | h | h | h | h | h | h | h | h | h | h | h | h | h <;> subst h
  all_goals (refine Y_go 600 ?_; dsimp only[go_sem,reduceAdd,Nat.reduceBEq,Nat.reduceMul])
  all_goals intro g
  all_goals simp only[Int.reduceBEq,Int.reduceBNe,Int.reduceToNat,Nat.reduceMul,reduceAdd,Int.reduceLT,Int.reduceLE,Int.reduceGT,Int.reduceGE,ge_iff_le,gt_iff_lt,Int.reduceSub,Int.reduceAdd,decide_true,decide_false,Bool.false_eq_true,Bool.true_eq_false,Bool.not_true,Bool.not_false,reduceCtorEq,false_implies,true_implies,forall_const,true_and,and_true]
  all_goals first | done | (exact ret_rv (vs:=[_,_]) r119 rfl rfl fun W hW=>hR _ _ ⟨⟨_,rfl⟩,hW.fresh'⟩) | skip
  all_goals intro g2
  ·refine⟨0,.toSub (by omega) (by omega) (by omega),⟨by omega,by omega⟩,?_⟩
   simp only[Int.reduceBEq,Int.reduceBNe,Int.reduceToNat,Nat.reduceMul,reduceAdd,Int.reduceLT,Int.reduceLE,Int.reduceGT,Int.reduceGE,ge_iff_le,gt_iff_lt,Int.reduceSub,Int.reduceAdd,decide_true,decide_false,Bool.false_eq_true,Bool.true_eq_false,Bool.not_true,Bool.not_false,reduceCtorEq,false_implies,true_implies,forall_const,true_and,and_true]
   dsimp only[go_sem,Nat.reduceBEq,reduceAdd]
   exact ret_rv (vs:=[_,_]) r119 rfl rfl fun W hW=>hR _ _ ⟨⟨_,rfl⟩,hW.fresh'⟩
  ·refine⟨1,.toSub (by omega) (by omega) (by omega),⟨by omega,by omega⟩,?_⟩
   simp only[Int.reduceBEq,Int.reduceBNe,Int.reduceToNat,Nat.reduceMul,reduceAdd,Int.reduceLT,Int.reduceLE,Int.reduceGT,Int.reduceGE,ge_iff_le,gt_iff_lt,Int.reduceSub,Int.reduceAdd,decide_true,decide_false,Bool.false_eq_true,Bool.true_eq_false,Bool.not_true,Bool.not_false,reduceCtorEq,false_implies,true_implies,forall_const,true_and,and_true]
   dsimp only[go_sem,Nat.reduceBEq,reduceAdd]
   exact ret_rv (vs:=[_,_]) r119 rfl rfl fun W hW=>hR _ _ ⟨⟨_,rfl⟩,hW.fresh'⟩
  ·refine⟨2,.toSub (by omega) (by omega) (by omega),⟨by omega,by omega⟩,?_⟩
   simp only[Int.reduceBEq,Int.reduceBNe,Int.reduceToNat,Nat.reduceMul,reduceAdd,Int.reduceLT,Int.reduceLE,Int.reduceGT,Int.reduceGE,ge_iff_le,gt_iff_lt,Int.reduceSub,Int.reduceAdd,decide_true,decide_false,Bool.false_eq_true,Bool.true_eq_false,Bool.not_true,Bool.not_false,reduceCtorEq,false_implies,true_implies,forall_const,true_and,and_true]
   dsimp only[go_sem,Nat.reduceBEq,reduceAdd]
   exact ret_rv (vs:=[_,_]) r119 rfl rfl fun W hW=>hR _ _ ⟨⟨_,rfl⟩,hW.fresh'⟩
  ·refine⟨3,.toSub (by omega) (by omega) (by omega),⟨by omega,by omega⟩,?_⟩
   simp only[Int.reduceBEq,Int.reduceBNe,Int.reduceToNat,Nat.reduceMul,reduceAdd,Int.reduceLT,Int.reduceLE,Int.reduceGT,Int.reduceGE,ge_iff_le,gt_iff_lt,Int.reduceSub,Int.reduceAdd,decide_true,decide_false,Bool.false_eq_true,Bool.true_eq_false,Bool.not_true,Bool.not_false,reduceCtorEq,false_implies,true_implies,forall_const,true_and,and_true]
   dsimp only[go_sem,Nat.reduceBEq,reduceAdd]
   exact ret_rv (vs:=[_,_]) r119 rfl rfl fun W hW=>hR _ _ ⟨⟨_,rfl⟩,hW.fresh'⟩
  ·refine⟨4,.toSub (by omega) (by omega) (by omega),⟨by omega,by omega⟩,?_⟩
   simp only[Int.reduceBEq,Int.reduceBNe,Int.reduceToNat,Nat.reduceMul,reduceAdd,Int.reduceLT,Int.reduceLE,Int.reduceGT,Int.reduceGE,ge_iff_le,gt_iff_lt,Int.reduceSub,Int.reduceAdd,decide_true,decide_false,Bool.false_eq_true,Bool.true_eq_false,Bool.not_true,Bool.not_false,reduceCtorEq,false_implies,true_implies,forall_const,true_and,and_true]
   dsimp only[go_sem,Nat.reduceBEq,reduceAdd]
   exact ret_rv (vs:=[_,_]) r119 rfl rfl fun W hW=>hR _ _ ⟨⟨_,rfl⟩,hW.fresh'⟩
  ·refine⟨5,.toSub (by omega) (by omega) (by omega),⟨by omega,by omega⟩,?_⟩
   simp only[Int.reduceBEq,Int.reduceBNe,Int.reduceToNat,Nat.reduceMul,reduceAdd,Int.reduceLT,Int.reduceLE,Int.reduceGT,Int.reduceGE,ge_iff_le,gt_iff_lt,Int.reduceSub,Int.reduceAdd,decide_true,decide_false,Bool.false_eq_true,Bool.true_eq_false,Bool.not_true,Bool.not_false,reduceCtorEq,false_implies,true_implies,forall_const,true_and,and_true]
   dsimp only[go_sem,Nat.reduceBEq,reduceAdd]
   exact ret_rv (vs:=[_,_]) r119 rfl rfl fun W hW=>hR _ _ ⟨⟨_,rfl⟩,hW.fresh'⟩
  ·refine⟨6,.toSub (by omega) (by omega) (by omega),⟨by omega,by omega⟩,?_⟩
   simp only[Int.reduceBEq,Int.reduceBNe,Int.reduceToNat,Nat.reduceMul,reduceAdd,Int.reduceLT,Int.reduceLE,Int.reduceGT,Int.reduceGE,ge_iff_le,gt_iff_lt,Int.reduceSub,Int.reduceAdd,decide_true,decide_false,Bool.false_eq_true,Bool.true_eq_false,Bool.not_true,Bool.not_false,reduceCtorEq,false_implies,true_implies,forall_const,true_and,and_true]
   dsimp only[go_sem,Nat.reduceBEq,reduceAdd]
   exact ret_rv (vs:=[_,_]) r119 rfl rfl fun W hW=>hR _ _ ⟨⟨_,rfl⟩,hW.fresh'⟩
  ·refine⟨0,.toSub (by omega) (by omega) (by omega),⟨by omega,by omega⟩,?_⟩
   simp only[Int.reduceBEq,Int.reduceBNe,Int.reduceToNat,Nat.reduceMul,reduceAdd,Int.reduceLT,Int.reduceLE,Int.reduceGT,Int.reduceGE,ge_iff_le,gt_iff_lt,Int.reduceSub,Int.reduceAdd,decide_true,decide_false,Bool.false_eq_true,Bool.true_eq_false,Bool.not_true,Bool.not_false,reduceCtorEq,false_implies,true_implies,forall_const,true_and,and_true]
   dsimp only[go_sem,Nat.reduceBEq,reduceAdd]
   exact ret_rv (vs:=[_,_]) r119 rfl rfl fun W hW=>hR _ _ ⟨⟨_,rfl⟩,hW.fresh'⟩
  ·refine⟨1,.toSub (by omega) (by omega) (by omega),⟨by omega,by omega⟩,?_⟩
   simp only[Int.reduceBEq,Int.reduceBNe,Int.reduceToNat,Nat.reduceMul,reduceAdd,Int.reduceLT,Int.reduceLE,Int.reduceGT,Int.reduceGE,ge_iff_le,gt_iff_lt,Int.reduceSub,Int.reduceAdd,decide_true,decide_false,Bool.false_eq_true,Bool.true_eq_false,Bool.not_true,Bool.not_false,reduceCtorEq,false_implies,true_implies,forall_const,true_and,and_true]
   dsimp only[go_sem,Nat.reduceBEq,reduceAdd]
   exact ret_rv (vs:=[_,_]) r119 rfl rfl fun W hW=>hR _ _ ⟨⟨_,rfl⟩,hW.fresh'⟩
  ·refine⟨3,.toSub (by omega) (by omega) (by omega),⟨by omega,by omega⟩,?_⟩
   simp only[Int.reduceBEq,Int.reduceBNe,Int.reduceToNat,Nat.reduceMul,reduceAdd,Int.reduceLT,Int.reduceLE,Int.reduceGT,Int.reduceGE,ge_iff_le,gt_iff_lt,Int.reduceSub,Int.reduceAdd,decide_true,decide_false,Bool.false_eq_true,Bool.true_eq_false,Bool.not_true,Bool.not_false,reduceCtorEq,false_implies,true_implies,forall_const,true_and,and_true]
   dsimp only[go_sem,Nat.reduceBEq,reduceAdd]
   exact ret_rv (vs:=[_,_]) r119 rfl rfl fun W hW=>hR _ _ ⟨⟨_,rfl⟩,hW.fresh'⟩
  ·refine⟨4,.toSub (by omega) (by omega) (by omega),⟨by omega,by omega⟩,?_⟩
   simp only[Int.reduceBEq,Int.reduceBNe,Int.reduceToNat,Nat.reduceMul,reduceAdd,Int.reduceLT,Int.reduceLE,Int.reduceGT,Int.reduceGE,ge_iff_le,gt_iff_lt,Int.reduceSub,Int.reduceAdd,decide_true,decide_false,Bool.false_eq_true,Bool.true_eq_false,Bool.not_true,Bool.not_false,reduceCtorEq,false_implies,true_implies,forall_const,true_and,and_true]
   dsimp only[go_sem,Nat.reduceBEq,reduceAdd]
   exact ret_rv (vs:=[_,_]) r119 rfl rfl fun W hW=>hR _ _ ⟨⟨_,rfl⟩,hW.fresh'⟩
  ·refine⟨5,.toSub (by omega) (by omega) (by omega),⟨by omega,by omega⟩,?_⟩
   simp only[Int.reduceBEq,Int.reduceBNe,Int.reduceToNat,Nat.reduceMul,reduceAdd,Int.reduceLT,Int.reduceLE,Int.reduceGT,Int.reduceGE,ge_iff_le,gt_iff_lt,Int.reduceSub,Int.reduceAdd,decide_true,decide_false,Bool.false_eq_true,Bool.true_eq_false,Bool.not_true,Bool.not_false,reduceCtorEq,false_implies,true_implies,forall_const,true_and,and_true]
   dsimp only[go_sem,Nat.reduceBEq,reduceAdd]
   exact ret_rv (vs:=[_,_]) r119 rfl rfl fun W hW=>hR _ _ ⟨⟨_,rfl⟩,hW.fresh'⟩
 | false =>
  have hn:∀ k:Int,1≤k→k≤18→(op == k)=false:=by
   intro k h1 h2
   rw[beq_eq_false_iff_ne]
   intro e; subst e; simp[isOp,h1,h2] at ho
  (refine Y_go 600 ?_; dsimp only[go_sem,reduceAdd,Nat.reduceBEq,Nat.reduceMul])
  intro g
  simp only[hn 1 (by omega) (by omega),hn 2 (by omega) (by omega),hn 3 (by omega) (by omega),hn 4 (by omega) (by omega),hn 5 (by omega) (by omega),hn 6 (by omega) (by omega),hn 7 (by omega) (by omega),hn 8 (by omega) (by omega),hn 9 (by omega) (by omega),hn 10 (by omega) (by omega),hn 11 (by omega) (by omega),hn 12 (by omega) (by omega),hn 13 (by omega) (by omega),hn 14 (by omega) (by omega),hn 15 (by omega) (by omega),hn 16 (by omega) (by omega),hn 17 (by omega) (by omega),hn 18 (by omega) (by omega)]
  simp only[Int.reduceBEq,Int.reduceBNe,Int.reduceToNat,Nat.reduceMul,reduceAdd,Int.reduceLT,Int.reduceLE,Int.reduceGT,Int.reduceGE,ge_iff_le,gt_iff_lt,Int.reduceSub,Int.reduceAdd,decide_true,decide_false,Bool.false_eq_true,Bool.true_eq_false,Bool.not_true,Bool.not_false,reduceCtorEq,false_implies,true_implies,forall_const,true_and,and_true]
  have e:∀ c,hasL op c=false:=by intro c; simp[hasL,nmL_out ho,Lib.indexByte]
  exact ret_rv (vs:=[_,_]) r119 rfl rfl fun W hW=>hR _ _ ⟨⟨_,by simp only[hasV,e,ho]; rfl⟩,hW.fresh'⟩
theorem zj17 (x:In) (w:World):CallsV Tryz.prog 90 [In.val x] w fun v w'=>v=.bool (legalB x)∧Fresh w w':=by
 refine zj03 (keep:=K90) (nt:=42) (svs:=[.agg (In.sv x)]) Tryz.func90 x90 n90 (by simp) (by simp only[IsL]; exact⟨_,_,In.is _ x,rfl,rfl⟩) fun R hR=>?_
 (refine Y_go 600 ?_; dsimp only[go_sem,In.sv,reduceAdd,Nat.reduceBEq])
 intro g
 refine zj01 (vs:=[.int .i64 x.op]) rfl (fun W hW=>zj33 x.op W) fun v ⟨wd,hv⟩=>⟨.tup [.agg [.val (.string wd),.val (.bool (hasL x.op 65)),.val (.bool (hasL x.op 66)),.val (.bool (hasL x.op 67)),.val (.bool (hasL x.op 73))],.val (.bool (isOp x.op))],by rw[hv]; simp[Is,IsL,hasV],?_⟩
 (refine Y_go 600 ?_; dsimp only[go_sem,Nat.reduceBEq,reduceAdd])
 intro g2
 have fin:∀ (b:Bool) F H,legalB x=b→denAll H F [2]=some [.bool b]→RetG (cxOf Tryz.prog Tryz.f90 K90 T90 R) ⟨w,w.heap.size,[],42,[]⟩ { F:=F,H:=H }:=by
  intro b F H hb hd
  refine zj02 (vs:=[.bool b]) r90 rfl hd fun W hW=>hR _ _ ⟨by rw[hb]; rfl,hW.fresh'⟩
 refine⟨fun h0=>?_,fun h0=>?_⟩
 rotate_left
 ·exact fin false _ _ (by simp[legalB,h0]) rfl
 ·refine⟨fun h1=>?_,fun h1=>?_⟩
  ·refine⟨fun h2=>?_,fun h2=>?_⟩
   ·refine⟨fun h3=>?_,fun h3=>?_⟩
    ·exact fin true _ _ (by simp_all [legalB]) rfl
    ·refine zj01 (vs:=[.int .i64 x.c]) rfl (fun W hW=>reg120 x.c W) fun v hv=>⟨.val (.bool (isReg x.c)),by rw[hv]; simp[Is],?_⟩
     (refine Y_go 600 ?_; dsimp only[go_sem,Nat.reduceBEq])
     exact fin (isReg x.c) _ _ (by simp_all [legalB]) rfl
   ·refine zj01 (vs:=[.int .i64 x.b]) rfl (fun W hW=>reg120 x.b W) fun v hv=>⟨.val (.bool (isReg x.b)),by rw[hv]; simp[Is],?_⟩
    (refine Y_go 600 ?_; dsimp only[go_sem,Nat.reduceBEq,reduceAdd])
    refine⟨fun e2=>?_,fun e2=>?_⟩
    ·refine⟨fun h3=>?_,fun h3=>?_⟩
     ·exact fin true _ _ (by simp_all [legalB]) rfl
     ·refine zj01 (vs:=[.int .i64 x.c]) rfl (fun W hW=>reg120 x.c W) fun v hv=>⟨.val (.bool (isReg x.c)),by rw[hv]; simp[Is],?_⟩
      (refine Y_go 600 ?_; dsimp only[go_sem,Nat.reduceBEq])
      exact fin (isReg x.c) _ _ (by simp_all [legalB]) rfl
    ·exact fin false _ _ (by simp_all [legalB]) rfl
  ·refine zj01 (vs:=[.int .i64 x.a]) rfl (fun W hW=>reg120 x.a W) fun v hv=>⟨.val (.bool (isReg x.a)),by rw[hv]; simp[Is],?_⟩
   (refine Y_go 600 ?_; dsimp only[go_sem,Nat.reduceBEq,reduceAdd])
   refine⟨fun e1=>?_,fun e1=>?_⟩
   ·refine⟨fun h2=>?_,fun h2=>?_⟩
    ·refine⟨fun h3=>?_,fun h3=>?_⟩
     ·exact fin true _ _ (by simp_all [legalB]) rfl
     ·refine zj01 (vs:=[.int .i64 x.c]) rfl (fun W hW=>reg120 x.c W) fun v hv=>⟨.val (.bool (isReg x.c)),by rw[hv]; simp[Is],?_⟩
      (refine Y_go 600 ?_; dsimp only[go_sem,Nat.reduceBEq])
      exact fin (isReg x.c) _ _ (by simp_all [legalB]) rfl
    ·refine zj01 (vs:=[.int .i64 x.b]) rfl (fun W hW=>reg120 x.b W) fun v hv=>⟨.val (.bool (isReg x.b)),by rw[hv]; simp[Is],?_⟩
     (refine Y_go 600 ?_; dsimp only[go_sem,Nat.reduceBEq,reduceAdd])
     refine⟨fun e2=>?_,fun e2=>?_⟩
     ·refine⟨fun h3=>?_,fun h3=>?_⟩
      ·exact fin true _ _ (by simp_all [legalB]) rfl
      ·refine zj01 (vs:=[.int .i64 x.c]) rfl (fun W hW=>reg120 x.c W) fun v hv=>⟨.val (.bool (isReg x.c)),by rw[hv]; simp[Is],?_⟩
       (refine Y_go 600 ?_; dsimp only[go_sem,Nat.reduceBEq])
       exact fin (isReg x.c) _ _ (by simp_all [legalB]) rfl
     ·exact fin false _ _ (by simp_all [legalB]) rfl
   ·exact fin false _ _ (by simp_all [legalB]) rfl
theorem goes84 (x:In) (w:World) (hG:ShAt w):CallsV Tryz.prog 84 [In.val x] w fun v w'=>v=.tuple #[.bool (goK x == 1),.bool (goK x == 2)]∧Fresh w w':=by
 refine zj03 (keep:=K84) (nt:=28) (svs:=[.agg (In.sv x)]) Tryz.func84 x84 n84 (by simp) (by simp only[IsL]; exact⟨_,_,In.is _ x,rfl,rfl⟩) fun R hR=>?_
 (refine Y_go 600 ?_; dsimp only[go_sem,In.sv,reduceAdd,Nat.reduceBEq])
 intro g
 refine zj01 (vs:=[In.val x]) rfl (fun W hW=>zj1e x W (hG.keep hW.fresh')) fun v hv=>⟨.val (.bool (legalB x)),by rw[hv]; simp[Is],?_⟩
 (refine Y_go 600 ?_; dsimp only[go_sem,Nat.reduceBEq,reduceAdd])
 have done:∀ s b1 b2,denAll s.H s.F [2,3]=some [.bool b1,.bool b2]→b1=(goK x == 1)→b2=(goK x == 2)→RetG (cxOf Tryz.prog Tryz.f84 K84 T84 R) ⟨w,w.heap.size,[],28,[]⟩ s:=fun s b1 b2 hs h1 h2 =>
  zj02 (vs:=[.bool b1,.bool b2]) r84 rfl hs fun W hW=>hR _ _ ⟨by rw[h1,h2]; rfl,hW.fresh'⟩
 have none':¬ (legalB x=true∧0≤x.imm∧x.imm≤1024)→∀ s,denAll s.H s.F [2,3]=some [.bool false,.bool false]→RetG (cxOf Tryz.prog Tryz.f84 K84 T84 R) ⟨w,w.heap.size,[],28,[]⟩ s:=fun h s hs=>done s _ _ hs (by simp[goK,h]) (by simp[goK,h])
 refine⟨fun h=>none' (by simp at h; simp[h]) _ rfl,fun h1=>⟨fun h=>none' (by have:=of_decide_eq_true h; omega) _ rfl,fun h2=>⟨fun h=>none' (by have:=of_decide_eq_true h; omega) _ rfl,fun h3=>⟨fun h4=>done _ _ _ rfl ?_ ?_,fun h4=>done _ _ _ rfl ?_ ?_⟩⟩⟩⟩
 all_goals have h1:legalB x=true:=by simpa using h1
 all_goals have h2:=of_decide_eq_false h2
 all_goals have h3:=of_decide_eq_false h3
 all_goals have hg:goK x=if x.op=13 then 1 else if 14≤x.op∧x.op≤16 then 2 else 0:=by unfold goK; rw[if_pos ⟨h1,by omega,by omega⟩]
 all_goals rw[hg]
 ·have h4:=of_decide_eq_true h4
  rw[if_neg (by omega)]; split <;> simp <;> omega
 ·have h4:=of_decide_eq_true h4
  rw[if_neg (by omega)]; split <;> simp <;> omega
 ·have h4:=of_decide_eq_false h4
  split
  ·simp[*]
  ·rw[if_neg (by omega)]; simp[*]
 ·have h4:=of_decide_eq_false h4
  split
  ·simp
  ·rw[if_neg (by omega)]; simp
theorem goes93 (x:In) (w:World):CallsV Tryz.prog 93 [In.val x] w fun v w'=>v=.int .i64 (goK x)∧Fresh w w':=by
 refine zj03 (keep:=K93) (nt:=29) (svs:=[.agg (In.sv x)]) Tryz.func93 x93 n93 (by simp) (by simp only[IsL]; exact⟨_,_,In.is _ x,rfl,rfl⟩) fun R hR=>?_
 (refine Y_go 600 ?_; dsimp only[go_sem,In.sv,reduceAdd,Nat.reduceBEq])
 intro g
 refine zj01 (vs:=[In.val x]) rfl (fun W hW=>zj17 x W) fun v hv=>⟨.val (.bool (legalB x)),by rw[hv]; simp[Is],?_⟩
 (refine Y_go 600 ?_; dsimp only[go_sem,Nat.reduceBEq,reduceAdd])
 have done:∀ s n,denAll s.H s.F [2]=some [.int .i64 n]→n=goK x→RetG (cxOf Tryz.prog Tryz.f93 K93 T93 R) ⟨w,w.heap.size,[],29,[]⟩ s:=fun s n hs h1 =>
  zj02 (vs:=[.int .i64 n]) r93 rfl hs fun W hW=>hR _ _ ⟨by rw[h1]; rfl,hW.fresh'⟩
 have none':¬ (legalB x=true∧0≤x.imm∧x.imm≤1024)→∀ s,denAll s.H s.F [2]=some [.int .i64 0]→RetG (cxOf Tryz.prog Tryz.f93 K93 T93 R) ⟨w,w.heap.size,[],29,[]⟩ s:=fun h s hs=>done s _ hs (by simp[goK,h])
 refine⟨fun h=>none' (by simp at h; simp[h]) _ rfl,fun h1=>⟨fun h=>none' (by have:=of_decide_eq_true h; omega) _ rfl,fun h2=>⟨fun h=>none' (by have:=of_decide_eq_true h; omega) _ rfl,fun h3=>?_⟩⟩⟩
 have h1:legalB x=true:=by simpa using h1
 have h2:=of_decide_eq_false h2
 have h3:=of_decide_eq_false h3
 have hg:goK x=if x.op=13 then 1 else if 14≤x.op∧x.op≤16 then 2 else 0:=by unfold goK; rw[if_pos ⟨h1,by omega,by omega⟩]
 refine⟨fun h4=>done _ _ rfl ?_,fun h4=>⟨fun h5=>⟨fun h6=>done _ _ rfl ?_,fun h6=>done _ _ rfl ?_⟩,fun h5=>done _ _ rfl ?_⟩⟩
 ·have h4:x.op=13:=by simpa using h4
  rw[hg,if_pos h4]
 ·have h4:x.op ≠ 13:=by simpa using h4
  have h5:=of_decide_eq_true h5; have h6:=of_decide_eq_true h6
  rw[hg,if_neg h4,if_pos ⟨h5,h6⟩]
 ·have h4:x.op ≠ 13:=by simpa using h4
  have h5:=of_decide_eq_true h5; have h6:=of_decide_eq_false h6
  rw[hg,if_neg h4,if_neg (by omega)]
 ·have h4:x.op ≠ 13:=by simpa using h4
  have h5:=of_decide_eq_false h5
  rw[hg,if_neg h4,if_neg (by omega)]
theorem oneI (l:List In):∀ u ∈ cellsI l,u.oneCell'=true:=by
 intro u hu
 simp only[cellsI,In.cells,List.mem_flatMap,List.mem_cons,List.not_mem_nil,or_false] at hu
 obtain⟨x,_,rfl | rfl | rfl | rfl | rfl⟩:=hu <;> rfl
theorem twin29 (A:Option Addr) (c:Nat) (l:List In) (w:World) (hA:RowAt w A (cellsI l)) (hl:l.length≤2000000) :
  CallsV Tryz.prog 29 [.slice A l.length c] w fun v w'=>World.ownsB w' w.heap.size 41 5 v l.length (cellsI l)∧Fresh w w':=by
 refine zj03 (keep:=K29) (nt:=7) (svs:=[.val (.slice A l.length c)]) Tryz.func29 x29 n29 (by simp) (by simp[IsL,Is]) fun R hR=>?_
 (refine Y_go 600 ?_; dsimp only[go_sem,reduceAdd,Nat.reduceBEq])
 have hrd:=hA.rd (nt:=7) (oneI l)
 rw[zj06] at hrd
 refine⟨_,hrd,⟨by simp only[maxLen]; omega,by omega⟩,fun A1 c1=>?_⟩
 exact zj02 (vs:=[_]) r29 rfl rfl fun W hW=>hR _ _ ⟨hW.owns (i:=0) rfl,hW.fresh'⟩
theorem clone82 (A:Option Addr) (c:Nat) (l:List In) (w:World) (hA:RowAt w A (cellsI l)) (hl:l.length≤2000000) :
  CallsV Tryz.prog 82 [.slice A l.length c] w fun v w'=>World.ownsB w' w.heap.size 41 5 v l.length (cellsI l)∧Fresh w w':=by
 refine zj03 (keep:=K82) (nt:=8) (svs:=[.val (.slice A l.length c)]) Tryz.func82 x82 n82 (by simp) (by simp[IsL,Is]) fun R hR=>?_
 (refine Y_go 600 ?_; dsimp only[go_sem,reduceAdd,Nat.reduceBEq,Nat.reduceMul])
 refine⟨fun h=>?_,fun h g=>?_⟩
 ·have hl0:l=[]:=by
   cases l with
   | nil=>rfl
   | cons x l=>have:=hA.isSome (j:=0) (by simp[cellsI,In.cells]); cases A <;> simp_all
  subst hl0
  exact zj02 (vs:=[.slice none 0 0]) r82 rfl rfl fun W hW=>hR _ _ ⟨zj0x _ _ _ _,hW.fresh'⟩
 ·have hrd:=hA.rd (nt:=8) (oneI l)
  rw[zj06] at hrd
  refine⟨_,hrd,⟨by simp only[maxLen]; omega,by omega⟩,fun A1 c1=>?_⟩
  refine zj02 (vs:=[.slice A1 (0+l.length) c1]) r82 rfl rfl fun W hW=>hR _ _ ⟨?_,hW.fresh'⟩
  have:=hW.owns (i:=1) rfl
  rw[Nat.zero_add] at this
  rw[Nat.zero_add]; exact this
theorem cellI {w:World} {A:Option Addr} {l:List In} {nt i:Nat} (h:RowAt w A (cellsI l)) (hi:i < l.length) {k:Nat} {v:Value} (hk:(l[i]).cells[k]? = some v):CellAt ⟨w,w.heap.size,[],nt,[]⟩ A (i*5+k) v :=
 h.cell (by rw[zj0b l hi (List.getElem?_eq_some_iff.1 hk).1]; exact hk)
theorem someI {w:World} {A:Option Addr} {l:List In} {i:Nat} (h:RowAt w A (cellsI l)) (hi:i < l.length):A.isSome=true:=h.isSome (j:=i*5) (by rw[zj06]; omega)
theorem same31 (A B : Option Addr) (c d : Nat) (l m : List In) (w : World) (hA : RowAt w A (cellsI l)) (hB : RowAt w B (cellsI m)) (hl : l.length ≤ 2000000)
   : CallsV Tryz.prog 31 [.slice A l.length c,.slice B m.length d] w fun v w'=>Fresh w w'∧v=.bool (decide (l=m)):=by
 refine zj03 (keep:=K31) (nt:=26) (svs:=[.val (.slice A l.length c),.val (.slice B m.length d)]) Tryz.func31 x31 n31 (by simp) (by simp[IsL,Is]) fun R hR=>?_
 have no:l ≠ m→∀ s,denAll s.H s.F [4]=some [.bool false]→RetG (cxOf Tryz.prog Tryz.f31 K31 T31 R) ⟨w,w.heap.size,[],26,[]⟩ s:=fun hk s hs =>
  zj02 r31 rfl hs fun W hW=>hR _ _ ⟨hW.fresh',by simp[hk,tupOf]⟩
 (refine Y_go 600 ?_; dsimp only[go_sem,reduceAdd,Nat.reduceBEq])
 refine⟨fun h=>no (fun e=>by simp[e] at h) _ rfl,fun h=>?_⟩
 have hlm : l.length = m.length := by have : (l.length : Int) = m.length := by simpa using h
                                      omega
 refine zj04 (α:=Nat) (fun i=>i≤l.length∧l.take i=m.take i) (fun _=>⟨w,w.heap.size,[],26,[]⟩)
   (fun i=>{ F:=[(0,.val (.slice A l.length c)),(1,.val (.slice B m.length d)),(5,.val (.int .i64 i))],H:=[] }) (fun i=>l.length - i) (fun _=>rfl) ?start ?round
 case start =>
  intro a W rep
  refine⟨0,⟨Nat.zero_le _,by simp⟩,rep.le ?_ ?_⟩ <;> (simp only[go_sem,lk,Nat.reduceBEq,reduceLT,reduceAdd] <;> try simp)
 case round =>
  rintro i ⟨hi,ht⟩ I hI
  (refine Y_go 600 ?_; dsimp only[go_sem,Nat.reduceBEq])
  refine⟨fun hlt=>?_,fun hge=>?_⟩
  ·have hlt:i < l.length:=by have:=of_decide_eq_true hlt; omega
   have hlt':i < m.length:=by omega
   refine⟨⟨by omega,by omega,someI hA hlt⟩,_,cellI hA hlt (k:=0) rfl,_,cellI hA hlt (k:=1) rfl,_,cellI hA hlt (k:=2) rfl,_,cellI hA hlt (k:=3) rfl,_,cellI hA hlt (k:=4) rfl,
    ⟨by omega,by omega,someI hB hlt'⟩,_,cellI hB hlt' (k:=0) rfl,_,cellI hB hlt' (k:=1) rfl,_,cellI hB hlt' (k:=2) rfl,_,cellI hB hlt' (k:=3) rfl,_,cellI hB hlt' (k:=4) rfl,?_⟩
   have hel:(l[i].op=m[i].op∧l[i].a=m[i].a∧l[i].b=m[i].b∧l[i].c=m[i].c∧l[i].imm=m[i].imm) ↔ l[i]=m[i]:=by
    constructor
    ·rintro ⟨h1,h2,h3,h4,h5⟩
     have:∀ x y:In,x.op=y.op→x.a=y.a→x.b=y.b→x.c=y.c→x.imm=y.imm→x=y:=by
      rintro ⟨⟩ ⟨⟩ h1 h2 h3 h4 h5; simp at h1 h2 h3 h4 h5; simp[h1,h2,h3,h4,h5]
     exact this _ _ h1 h2 h3 h4 h5
    ·intro h; rw[h]; simp
   refine⟨fun h=>no (fun e=>?_) _ rfl,fun h=>⟨_,.add64 (by omega) (by omega),zj00 fun a W rep=>hI (i+1) ⟨by omega,?_⟩ (by omega) a W (rep.le ?_ ?_)⟩⟩
   ·subst e; simp at h
   ·rw[zj3k l hlt,zj3k m hlt',ht,hel.1 (by simpa using h)]
   ·(simp only[go_sem,lk,Nat.reduceBEq,reduceLT,reduceAdd] <;> try simp)
   ·(simp only[go_sem,lk,Nat.reduceBEq,reduceLT,reduceAdd] <;> try simp)
  ·have hil:i=l.length:=by have:=of_decide_eq_false hge; omega
   subst hil
   have:l=m:=by rw[List.take_length,hlm,List.take_length] at ht; exact ht
   exact zj02 (vs:=[.bool true]) r31 rfl rfl fun W hW=>hR _ _ ⟨hW.fresh',by simp[this,tupOf]⟩
end Go.Proofs.YtlbiogokpadaoaaGreatDoor
