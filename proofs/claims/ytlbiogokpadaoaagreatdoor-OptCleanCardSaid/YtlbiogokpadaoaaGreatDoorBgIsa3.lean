/- The document's ShapeOf and shifted. -/
import Derived.Test.YtlbiogokpadaoaaGreatDoorBgIsa1
import Derived.Test.YtlbiogokpadaoaaGreatDoorBgCodeThr
set_option linter.unusedSimpArgs false
set_option linter.unusedVariables false
set_option linter.unnecessarySimpa false
namespace Go.Proofs.YtlbiogokpadaoaaGreatDoor
open Go Go.Sx Go.Isa
open Nat (reduceAdd reduceLT)
set_option maxRecDepth 100000
def hasV (op:Int) (wd:ByteArray):Value:=.agg #[.string wd,.bool (hasL op 65),.bool (hasL op 66),.bool (hasL op 67),.bool (hasL op 73)]
set_option maxHeartbeats 8000000 in
theorem shape119 (op:Int) (w:World):CallsV Tryz.prog 119 [.int .i64 op] w fun v w'=>(∃ wd,v=.tuple #[hasV op wd,.bool (isOp op)])∧Fresh w w':=by
 refine zj03 (keep:=K119) (nt:=54) (svs:=[.val (.int .i64 op)]) Tryz.func119 x119 n119 (by simp) (by simp[IsL,Is]) fun R hR=>?_
 cases ho:isOp op with
 | true =>
  rcases zj1x ho with h | h | h | h | h | h | h | h | h | h | h | h | h | h | h | h | h | h <;> subst h
  all_goals (refine Y_go 600 ?_; dsimp only[go_sem,reduceAdd,Nat.reduceBEq,Nat.reduceMul])
  all_goals intro g
  all_goals simp only[Int.reduceBEq,Int.reduceBNe,Int.reduceToNat,Nat.reduceMul,reduceAdd,Int.reduceLT,Int.reduceLE,Int.reduceGT,Int.reduceGE,ge_iff_le,gt_iff_lt,Int.reduceSub,Int.reduceAdd,decide_true,decide_false,Bool.false_eq_true,Bool.true_eq_false,Bool.not_true,Bool.not_false,reduceCtorEq,false_implies,true_implies,forall_const,true_and,and_true]
  all_goals first | done | (exact ret_rv (vs:=[_,_]) r119 rfl rfl fun W hW=>hR _ _ ⟨⟨_,rfl⟩,hW.fresh'⟩) | skip
  all_goals intro g2
  ·refine⟨0,.toSub (by omega) (by omega) (by omega),⟨by omega,by omega⟩,?_⟩
   simp only[Int.reduceBEq,Int.reduceBNe,Int.reduceToNat,Nat.reduceMul,reduceAdd,Int.reduceLT,Int.reduceLE,Int.reduceGT,Int.reduceGE,ge_iff_le,gt_iff_lt,Int.reduceSub,Int.reduceAdd,decide_true,decide_false,Bool.false_eq_true,Bool.true_eq_false,Bool.not_true,Bool.not_false,reduceCtorEq,false_implies,true_implies,forall_const,true_and,and_true]
   dsimp only[go_sem,Nat.reduceBEq,reduceAdd]
   exact ret_rv (vs:=[_,_]) r119 rfl rfl fun W hW=>hR _ _ ⟨⟨_,rfl⟩,hW.fresh'⟩
  ·refine⟨1,.toSub (by omega) (by omega) (by omega),⟨by omega,by omega⟩,?_⟩
   simp only[Int.reduceBEq,Int.reduceBNe,Int.reduceToNat,Nat.reduceMul,reduceAdd,Int.reduceLT,Int.reduceLE,Int.reduceGT,Int.reduceGE,ge_iff_le,gt_iff_lt,Int.reduceSub,Int.reduceAdd,decide_true,decide_false,Bool.false_eq_true,Bool.true_eq_false,Bool.not_true,Bool.not_false,reduceCtorEq,false_implies,true_implies,forall_const,true_and,and_true]
   dsimp only[go_sem,Nat.reduceBEq,reduceAdd]
   exact ret_rv (vs:=[_,_]) r119 rfl rfl fun W hW=>hR _ _ ⟨⟨_,rfl⟩,hW.fresh'⟩
  ·refine⟨2,.toSub (by omega) (by omega) (by omega),⟨by omega,by omega⟩,?_⟩
   simp only[Int.reduceBEq,Int.reduceBNe,Int.reduceToNat,Nat.reduceMul,reduceAdd,Int.reduceLT,Int.reduceLE,Int.reduceGT,Int.reduceGE,ge_iff_le,gt_iff_lt,Int.reduceSub,Int.reduceAdd,decide_true,decide_false,Bool.false_eq_true,Bool.true_eq_false,Bool.not_true,Bool.not_false,reduceCtorEq,false_implies,true_implies,forall_const,true_and,and_true]
   dsimp only[go_sem,Nat.reduceBEq,reduceAdd]
   exact ret_rv (vs:=[_,_]) r119 rfl rfl fun W hW=>hR _ _ ⟨⟨_,rfl⟩,hW.fresh'⟩
  ·refine⟨3,.toSub (by omega) (by omega) (by omega),⟨by omega,by omega⟩,?_⟩
   simp only[Int.reduceBEq,Int.reduceBNe,Int.reduceToNat,Nat.reduceMul,reduceAdd,Int.reduceLT,Int.reduceLE,Int.reduceGT,Int.reduceGE,ge_iff_le,gt_iff_lt,Int.reduceSub,Int.reduceAdd,decide_true,decide_false,Bool.false_eq_true,Bool.true_eq_false,Bool.not_true,Bool.not_false,reduceCtorEq,false_implies,true_implies,forall_const,true_and,and_true]
   dsimp only[go_sem,Nat.reduceBEq,reduceAdd]
   exact ret_rv (vs:=[_,_]) r119 rfl rfl fun W hW=>hR _ _ ⟨⟨_,rfl⟩,hW.fresh'⟩
  ·refine⟨4,.toSub (by omega) (by omega) (by omega),⟨by omega,by omega⟩,?_⟩
   simp only[Int.reduceBEq,Int.reduceBNe,Int.reduceToNat,Nat.reduceMul,reduceAdd,Int.reduceLT,Int.reduceLE,Int.reduceGT,Int.reduceGE,ge_iff_le,gt_iff_lt,Int.reduceSub,Int.reduceAdd,decide_true,decide_false,Bool.false_eq_true,Bool.true_eq_false,Bool.not_true,Bool.not_false,reduceCtorEq,false_implies,true_implies,forall_const,true_and,and_true]
   dsimp only[go_sem,Nat.reduceBEq,reduceAdd]
   exact ret_rv (vs:=[_,_]) r119 rfl rfl fun W hW=>hR _ _ ⟨⟨_,rfl⟩,hW.fresh'⟩
  ·refine⟨5,.toSub (by omega) (by omega) (by omega),⟨by omega,by omega⟩,?_⟩
   simp only[Int.reduceBEq,Int.reduceBNe,Int.reduceToNat,Nat.reduceMul,reduceAdd,Int.reduceLT,Int.reduceLE,Int.reduceGT,Int.reduceGE,ge_iff_le,gt_iff_lt,Int.reduceSub,Int.reduceAdd,decide_true,decide_false,Bool.false_eq_true,Bool.true_eq_false,Bool.not_true,Bool.not_false,reduceCtorEq,false_implies,true_implies,forall_const,true_and,and_true]
   dsimp only[go_sem,Nat.reduceBEq,reduceAdd]
   exact ret_rv (vs:=[_,_]) r119 rfl rfl fun W hW=>hR _ _ ⟨⟨_,rfl⟩,hW.fresh'⟩
  ·refine⟨6,.toSub (by omega) (by omega) (by omega),⟨by omega,by omega⟩,?_⟩
   simp only[Int.reduceBEq,Int.reduceBNe,Int.reduceToNat,Nat.reduceMul,reduceAdd,Int.reduceLT,Int.reduceLE,Int.reduceGT,Int.reduceGE,ge_iff_le,gt_iff_lt,Int.reduceSub,Int.reduceAdd,decide_true,decide_false,Bool.false_eq_true,Bool.true_eq_false,Bool.not_true,Bool.not_false,reduceCtorEq,false_implies,true_implies,forall_const,true_and,and_true]
   dsimp only[go_sem,Nat.reduceBEq,reduceAdd]
   exact ret_rv (vs:=[_,_]) r119 rfl rfl fun W hW=>hR _ _ ⟨⟨_,rfl⟩,hW.fresh'⟩
  ·refine⟨0,.toSub (by omega) (by omega) (by omega),⟨by omega,by omega⟩,?_⟩
   simp only[Int.reduceBEq,Int.reduceBNe,Int.reduceToNat,Nat.reduceMul,reduceAdd,Int.reduceLT,Int.reduceLE,Int.reduceGT,Int.reduceGE,ge_iff_le,gt_iff_lt,Int.reduceSub,Int.reduceAdd,decide_true,decide_false,Bool.false_eq_true,Bool.true_eq_false,Bool.not_true,Bool.not_false,reduceCtorEq,false_implies,true_implies,forall_const,true_and,and_true]
   dsimp only[go_sem,Nat.reduceBEq,reduceAdd]
   exact ret_rv (vs:=[_,_]) r119 rfl rfl fun W hW=>hR _ _ ⟨⟨_,rfl⟩,hW.fresh'⟩
  ·refine⟨1,.toSub (by omega) (by omega) (by omega),⟨by omega,by omega⟩,?_⟩
   simp only[Int.reduceBEq,Int.reduceBNe,Int.reduceToNat,Nat.reduceMul,reduceAdd,Int.reduceLT,Int.reduceLE,Int.reduceGT,Int.reduceGE,ge_iff_le,gt_iff_lt,Int.reduceSub,Int.reduceAdd,decide_true,decide_false,Bool.false_eq_true,Bool.true_eq_false,Bool.not_true,Bool.not_false,reduceCtorEq,false_implies,true_implies,forall_const,true_and,and_true]
   dsimp only[go_sem,Nat.reduceBEq,reduceAdd]
   exact ret_rv (vs:=[_,_]) r119 rfl rfl fun W hW=>hR _ _ ⟨⟨_,rfl⟩,hW.fresh'⟩
  ·refine⟨3,.toSub (by omega) (by omega) (by omega),⟨by omega,by omega⟩,?_⟩
   simp only[Int.reduceBEq,Int.reduceBNe,Int.reduceToNat,Nat.reduceMul,reduceAdd,Int.reduceLT,Int.reduceLE,Int.reduceGT,Int.reduceGE,ge_iff_le,gt_iff_lt,Int.reduceSub,Int.reduceAdd,decide_true,decide_false,Bool.false_eq_true,Bool.true_eq_false,Bool.not_true,Bool.not_false,reduceCtorEq,false_implies,true_implies,forall_const,true_and,and_true]
   dsimp only[go_sem,Nat.reduceBEq,reduceAdd]
   exact ret_rv (vs:=[_,_]) r119 rfl rfl fun W hW=>hR _ _ ⟨⟨_,rfl⟩,hW.fresh'⟩
  ·refine⟨4,.toSub (by omega) (by omega) (by omega),⟨by omega,by omega⟩,?_⟩
   simp only[Int.reduceBEq,Int.reduceBNe,Int.reduceToNat,Nat.reduceMul,reduceAdd,Int.reduceLT,Int.reduceLE,Int.reduceGT,Int.reduceGE,ge_iff_le,gt_iff_lt,Int.reduceSub,Int.reduceAdd,decide_true,decide_false,Bool.false_eq_true,Bool.true_eq_false,Bool.not_true,Bool.not_false,reduceCtorEq,false_implies,true_implies,forall_const,true_and,and_true]
   dsimp only[go_sem,Nat.reduceBEq,reduceAdd]
   exact ret_rv (vs:=[_,_]) r119 rfl rfl fun W hW=>hR _ _ ⟨⟨_,rfl⟩,hW.fresh'⟩
  ·refine⟨5,.toSub (by omega) (by omega) (by omega),⟨by omega,by omega⟩,?_⟩
   simp only[Int.reduceBEq,Int.reduceBNe,Int.reduceToNat,Nat.reduceMul,reduceAdd,Int.reduceLT,Int.reduceLE,Int.reduceGT,Int.reduceGE,ge_iff_le,gt_iff_lt,Int.reduceSub,Int.reduceAdd,decide_true,decide_false,Bool.false_eq_true,Bool.true_eq_false,Bool.not_true,Bool.not_false,reduceCtorEq,false_implies,true_implies,forall_const,true_and,and_true]
   dsimp only[go_sem,Nat.reduceBEq,reduceAdd]
   exact ret_rv (vs:=[_,_]) r119 rfl rfl fun W hW=>hR _ _ ⟨⟨_,rfl⟩,hW.fresh'⟩
 | false =>
  have hn:∀ k:Int,1≤k→k≤18→(op == k)=false:=by
   intro k h1 h2
   rw[beq_eq_false_iff_ne]
   intro e; subst e; simp[isOp,h1,h2] at ho
  (refine Y_go 600 ?_; dsimp only[go_sem,reduceAdd,Nat.reduceBEq,Nat.reduceMul])
  intro g
  simp only[hn 1 (by omega) (by omega),hn 2 (by omega) (by omega),hn 3 (by omega) (by omega),hn 4 (by omega) (by omega),hn 5 (by omega) (by omega),hn 6 (by omega) (by omega),hn 7 (by omega) (by omega),hn 8 (by omega) (by omega),hn 9 (by omega) (by omega),hn 10 (by omega) (by omega),hn 11 (by omega) (by omega),hn 12 (by omega) (by omega),hn 13 (by omega) (by omega),hn 14 (by omega) (by omega),hn 15 (by omega) (by omega),hn 16 (by omega) (by omega),hn 17 (by omega) (by omega),hn 18 (by omega) (by omega)]
  simp only[Int.reduceBEq,Int.reduceBNe,Int.reduceToNat,Nat.reduceMul,reduceAdd,Int.reduceLT,Int.reduceLE,Int.reduceGT,Int.reduceGE,ge_iff_le,gt_iff_lt,Int.reduceSub,Int.reduceAdd,decide_true,decide_false,Bool.false_eq_true,Bool.true_eq_false,Bool.not_true,Bool.not_false,reduceCtorEq,false_implies,true_implies,forall_const,true_and,and_true]
  have e:∀ c,hasL op c=false:=by intro c; simp[hasL,nmL_out ho,Lib.indexByte]
  exact ret_rv (vs:=[_,_]) r119 rfl rfl fun W hW=>hR _ _ ⟨⟨_,by simp only[hasV,e,ho]; rfl⟩,hW.fresh'⟩
theorem goes84 (x:In) (w:World) (hG:ShAt w):CallsV Tryz.prog 84 [In.val x] w fun v w'=>v=.tuple #[.bool (goK x == 1),.bool (goK x == 2)]∧Fresh w w':=by
 refine zj03 (keep:=K84) (nt:=28) (svs:=[.agg (In.sv x)]) Tryz.func84 x84 n84 (by simp) (by simp only[IsL]; exact⟨_,_,In.is _ x,rfl,rfl⟩) fun R hR=>?_
 (refine Y_go 600 ?_; dsimp only[go_sem,In.sv,reduceAdd,Nat.reduceBEq])
 intro g
 refine zj00 (vs:=[In.val x]) rfl (fun W hW=>zj16 x W (hG.keep hW.fresh')) fun v hv=>⟨.val (.bool (legalB x)),by rw[hv]; simp[Is],?_⟩
 (refine Y_go 600 ?_; dsimp only[go_sem,Nat.reduceBEq,reduceAdd])
 have done:∀ s b1 b2,denAll s.H s.F [2,3]=some [.bool b1,.bool b2]→b1=(goK x == 1)→b2=(goK x == 2)→RetG (cxOf Tryz.prog Tryz.f84 K84 T84 R) ⟨w,w.heap.size,[],28,[]⟩ s:=fun s b1 b2 hs h1 h2 =>
  zj02 (vs:=[.bool b1,.bool b2]) r84 rfl hs fun W hW=>hR _ _ ⟨by rw[h1,h2]; rfl,hW.fresh'⟩
 have none':¬ (legalB x=true∧0≤x.imm∧x.imm≤1024)→∀ s,denAll s.H s.F [2,3]=some [.bool false,.bool false]→RetG (cxOf Tryz.prog Tryz.f84 K84 T84 R) ⟨w,w.heap.size,[],28,[]⟩ s:=fun h s hs=>done s _ _ hs (by simp[goK,h]) (by simp[goK,h])
 refine⟨fun h=>none' (by simp at h; simp[h]) _ rfl,fun h1=>⟨fun h=>none' (by have:=of_decide_eq_true h; omega) _ rfl,fun h2=>⟨fun h=>none' (by have:=of_decide_eq_true h; omega) _ rfl,fun h3=>⟨fun h4=>done _ _ _ rfl ?_ ?_,fun h4=>done _ _ _ rfl ?_ ?_⟩⟩⟩⟩
 all_goals have h1:legalB x=true:=by simpa using h1
 all_goals have h2:=of_decide_eq_false h2
 all_goals have h3:=of_decide_eq_false h3
 all_goals have hg:goK x=if x.op=13 then 1 else if 14≤x.op∧x.op≤16 then 2 else 0:=by unfold goK; rw[if_pos ⟨h1,by omega,by omega⟩]
 all_goals rw[hg]
 ·have h4:=of_decide_eq_true h4
  rw[if_neg (by omega)]; split <;> simp <;> omega
 ·have h4:=of_decide_eq_true h4
  rw[if_neg (by omega)]; split <;> simp <;> omega
 ·have h4:=of_decide_eq_false h4
  split
  ·simp[*]
  ·rw[if_neg (by omega)]; simp[*]
 ·have h4:=of_decide_eq_false h4
  split
  ·simp
  ·rw[if_neg (by omega)]; simp
theorem oneI (l:List In):∀ u ∈ cellsI l,u.oneCell'=true:=by
 intro u hu
 simp only[cellsI,In.cells,List.mem_flatMap,List.mem_cons,List.not_mem_nil,or_false] at hu
 obtain⟨x,_,rfl | rfl | rfl | rfl | rfl⟩:=hu <;> rfl
theorem clone82 (A:Option Addr) (c:Nat) (l:List In) (w:World) (hA:RowAt w A (cellsI l)) (hl:l.length≤2000000) :
  CallsV Tryz.prog 82 [.slice A l.length c] w fun v w'=>World.ownsB w' w.heap.size 41 5 v l.length (cellsI l)∧Fresh w w':=by
 refine zj03 (keep:=K82) (nt:=8) (svs:=[.val (.slice A l.length c)]) Tryz.func82 x82 n82 (by simp) (by simp[IsL,Is]) fun R hR=>?_
 (refine Y_go 600 ?_; dsimp only[go_sem,reduceAdd,Nat.reduceBEq,Nat.reduceMul])
 refine⟨fun h=>?_,fun h g=>?_⟩
 ·have hl0:l=[]:=by
   cases l with
   | nil=>rfl
   | cons x l=>have:=hA.isSome (j:=0) (by simp[cellsI,In.cells]); cases A <;> simp_all
  subst hl0
  exact zj02 (vs:=[.slice none 0 0]) r82 rfl rfl fun W hW=>hR _ _ ⟨zj1d _ _ _ _,hW.fresh'⟩
 ·have hrd:=hA.rd (nt:=8) (oneI l)
  rw[zj0m] at hrd
  refine⟨_,hrd,⟨by simp only[maxLen]; omega,by omega⟩,fun A1 c1=>?_⟩
  refine zj02 (vs:=[.slice A1 (0+l.length) c1]) r82 rfl rfl fun W hW=>hR _ _ ⟨?_,hW.fresh'⟩
  have:=hW.owns (i:=1) rfl
  rw[Nat.zero_add] at this
  rw[Nat.zero_add]; exact this
theorem cellI {w:World} {A:Option Addr} {l:List In} {nt i:Nat} (h:RowAt w A (cellsI l)) (hi:i < l.length) {k:Nat} {v:Value} (hk:(l[i]).cells[k]? = some v):CellAt ⟨w,w.heap.size,[],nt,[]⟩ A (i*5+k) v :=
 h.cell (by rw[zj15 l hi (List.getElem?_eq_some_iff.1 hk).1]; exact hk)
theorem someI {w:World} {A:Option Addr} {l:List In} {i:Nat} (h:RowAt w A (cellsI l)) (hi:i < l.length):A.isSome=true:=h.isSome (j:=i*5) (by rw[zj0m]; omega)
end Go.Proofs.YtlbiogokpadaoaaGreatDoor
