/- The walk: the document's line of an instruction (shuntref10.Text). -/
import Derived.Test.YtaiajnehnjnadaaGreatDoorMIrLaw1
set_option linter.unusedSimpArgs false
set_option linter.unusedVariables false
set_option linter.unnecessarySimpa false
namespace Go.Proofs.YtaiajnehnjnadaaGreatDoor
open Go Go.Sx Go.Isa
open Nat (reduceAdd reduceLT)
set_option maxRecDepth 100000
def rawOps:List XS:=match T38n0 with | .seq (.ops l) _=>l.drop 10 | _=>[]
theorem grp {op:Int} (h:isOp op=true):∃ p ∈ ([(false,false,false,false),(true,false,false,true),(true,true,false,false),(true,true,true,false),(true,true,false,true),(false,false,false,true)]:List (Bool × Bool × Bool × Bool)),hasL op 65=p.1∧hasL op 66=p.2.1∧hasL op 67=p.2.2.1∧hasL op 73=p.2.2.2∧nmL op=(if p.1 then [65] else [])++(if p.2.1 then [66] else [])++(if p.2.2.1 then [67] else [])++(if p.2.2.2 then [73] else []):=by
 rcases zj0w h with h | h | h | h | h | h | h | h | h | h | h | h | h | h | h | h | h | h <;> subst h <;> decide
theorem raw_le {x:In} (hx:in64 x):(Lib.itoa x.op).length≤21∧(Lib.itoa x.a).length≤21∧(Lib.itoa x.b).length≤21∧(Lib.itoa x.c).length≤21∧(Lib.itoa x.imm).length≤21 :=
 ⟨Lib.itoa_length_le _ hx.1.1 hx.1.2,Lib.itoa_length_le _ hx.2.1.1 hx.2.1.2,Lib.itoa_length_le _ hx.2.2.1.1 hx.2.2.1.2,Lib.itoa_length_le _ hx.2.2.2.1.1 hx.2.2.2.1.2,Lib.itoa_length_le _ hx.2.2.2.2.1 hx.2.2.2.2.2⟩
set_option maxHeartbeats 4000000 in
theorem text17 (x:In) (w:World) (hx:in64 x):CallsV Tryz.prog 38 [In.val x] w fun v w'=>v=.string ⟨⟨textL x⟩⟩∧Fresh w w':=by
 refine zj05 (keep:=K38) (nt:=118) (svs:=[.agg (In.sv x)]) Tryz.func38 x38 n38 (by simp) (by simp only[IsL]; exact⟨_,_,In.is _ x,rfl,rfl⟩) fun R hR=>?_
 (refine Y_go 600 ?_; dsimp only[go_sem,In.sv,reduceAdd,Nat.reduceBEq])
 intro g
 obtain⟨l0,l1,l2,l3,l4⟩:=raw_le hx
 have raw:∀ (g2:Nat) (p q r t:Bool),textL x=rawW++argL x rawN→G (cxOf Tryz.prog Tryz.f38 K38 T38 R) ⟨w,w.heap.size,[],118,[]⟩ [.ops rawOps,.code .ret,.code (.ref 10)]
   { F:=[(80,.val (.int .i64 x.imm)),(75,.val (.int .i64 x.c)),(70,.val (.int .i64 x.b)),(65,.val (.int .i64 x.a)),(60,.val (.int .i64 x.op)),(79,.ptr 0 4),(74,.ptr 0 3),(69,.ptr 0 2),(64,.ptr 0 1)],H:=[.cells g 43 [.val (.int .i64 x.op),.val (.int .i64 x.a),.val (.int .i64 x.b),.val (.int .i64 x.c),.val (.int .i64 x.imm)],.cells g2 81 [.val (.string ⟨⟨wdL x.op⟩⟩),.val (.bool p),.val (.bool q),.val (.bool r),.val (.bool t)]] }:=by
  intro g2 p q r t ht
  unfold rawOps
  dsimp only[T38n0,List.drop]
  (refine Y_go 600 ?_; dsimp only[go_sem])
  refine zj00 (vs:=[.int .i64 x.op]) rfl (fun W hW=>zj0d x.op W hx.1.1 hx.1.2) fun v hv=>⟨.val (.string ⟨⟨Lib.itoa x.op⟩⟩),by rw[hv]; simp[Is],?_⟩
  (refine Y_go 600 ?_; dsimp only[go_sem])
  (refine zj0p (by dsimp only[go_sem,Nat.reduceBEq,reduceAdd]; exact⟨rfl,zj07 rfl⟩) ?_; refine Y_go 600 ?_; dsimp only[go_sem])
  (refine zj0p (by dsimp only[go_sem,Nat.reduceBEq,reduceAdd]; exact⟨rfl,zj07 rfl⟩) ?_; refine Y_go 600 ?_; dsimp only[go_sem])
  (refine zj0p (by dsimp only[go_sem,Nat.reduceBEq,reduceAdd]; exact⟨rfl,zj07 rfl⟩) ?_; refine Y_go 600 ?_; dsimp only[go_sem])
  (refine zj0p (by dsimp only[go_sem,Nat.reduceBEq,reduceAdd]; exact⟨rfl,zj07 rfl⟩) ?_; refine Y_go 600 ?_; dsimp only[go_sem,Nat.reduceBEq])
  refine⟨by (first | (simp only[zj04,zj02,List.length_append,List.length_cons,List.length_nil]; omega) | (simp[ByteArray.size]; omega)),by (first | (simp only[zj04,zj02,List.length_append,List.length_cons,List.length_nil]; omega) | (simp[ByteArray.size]; omega)),?_⟩
  try simp only[zj04]
  refine zj00 (vs:=[.int .i64 x.a]) rfl (fun W hW=>zj0d x.a W hx.2.1.1 hx.2.1.2) fun v hv=>⟨.val (.string ⟨⟨Lib.itoa x.a⟩⟩),by rw[hv]; simp[Is],?_⟩
  (refine Y_go 600 ?_; dsimp only[go_sem])
  (refine zj0p (by dsimp only[go_sem,Nat.reduceBEq,reduceAdd]; exact⟨rfl,zj07 rfl⟩) ?_; refine Y_go 600 ?_; dsimp only[go_sem])
  (refine zj0p (by dsimp only[go_sem,Nat.reduceBEq,reduceAdd]; exact⟨rfl,zj07 rfl⟩) ?_; refine Y_go 600 ?_; dsimp only[go_sem])
  (refine zj0p (by dsimp only[go_sem,Nat.reduceBEq,reduceAdd]; exact⟨rfl,zj07 rfl⟩) ?_; refine Y_go 600 ?_; dsimp only[go_sem,Nat.reduceBEq])
  refine⟨by (first | (simp only[zj04,zj02,List.length_append,List.length_cons,List.length_nil]; omega) | (simp[ByteArray.size]; omega)),by (first | (simp only[zj04,zj02,List.length_append,List.length_cons,List.length_nil]; omega) | (simp[ByteArray.size]; omega)),?_⟩
  try simp only[zj04]
  refine zj00 (vs:=[.int .i64 x.b]) rfl (fun W hW=>zj0d x.b W hx.2.2.1.1 hx.2.2.1.2) fun v hv=>⟨.val (.string ⟨⟨Lib.itoa x.b⟩⟩),by rw[hv]; simp[Is],?_⟩
  (refine Y_go 600 ?_; dsimp only[go_sem])
  (refine zj0p (by dsimp only[go_sem,Nat.reduceBEq,reduceAdd]; exact⟨rfl,zj07 rfl⟩) ?_; refine Y_go 600 ?_; dsimp only[go_sem])
  (refine zj0p (by dsimp only[go_sem,Nat.reduceBEq,reduceAdd]; exact⟨rfl,zj07 rfl⟩) ?_; refine Y_go 600 ?_; dsimp only[go_sem,Nat.reduceBEq])
  refine⟨by (first | (simp only[zj04,zj02,List.length_append,List.length_cons,List.length_nil]; omega) | (simp[ByteArray.size]; omega)),by (first | (simp only[zj04,zj02,List.length_append,List.length_cons,List.length_nil]; omega) | (simp[ByteArray.size]; omega)),?_⟩
  try simp only[zj04]
  refine zj00 (vs:=[.int .i64 x.c]) rfl (fun W hW=>zj0d x.c W hx.2.2.2.1.1 hx.2.2.2.1.2) fun v hv=>⟨.val (.string ⟨⟨Lib.itoa x.c⟩⟩),by rw[hv]; simp[Is],?_⟩
  (refine Y_go 600 ?_; dsimp only[go_sem])
  (refine zj0p (by dsimp only[go_sem,Nat.reduceBEq,reduceAdd]; exact⟨rfl,zj07 rfl⟩) ?_; refine Y_go 600 ?_; dsimp only[go_sem,Nat.reduceBEq])
  refine⟨by (first | (simp only[zj04,zj02,List.length_append,List.length_cons,List.length_nil]; omega) | (simp[ByteArray.size]; omega)),by (first | (simp only[zj04,zj02,List.length_append,List.length_cons,List.length_nil]; omega) | (simp[ByteArray.size]; omega)),?_⟩
  try simp only[zj04]
  refine zj00 (vs:=[.int .i64 x.imm]) rfl (fun W hW=>zj0d x.imm W hx.2.2.2.2.1 hx.2.2.2.2.2) fun v hv=>⟨.val (.string ⟨⟨Lib.itoa x.imm⟩⟩),by rw[hv]; simp[Is],?_⟩
  (refine Y_go 600 ?_; dsimp only[go_sem,Nat.reduceBEq])
  refine⟨by (first | (simp only[zj04,zj02,List.length_append,List.length_cons,List.length_nil]; omega) | (simp[ByteArray.size]; omega)),?_⟩
  exact zj03 (vs:=[_]) r38 rfl rfl fun W hW=>hR _ _ ⟨by rw[ht,zj04]; simp only[rawW,rawN,argL,List.flatMap_cons,List.flatMap_nil,List.cons_append,List.nil_append,List.append_assoc,List.append_nil]; rfl,hW.fresh'⟩
 refine zj00 (vs:=[.int .i64 x.op]) rfl (fun W hW=>shape29 x.op W) fun v hv=>⟨.tup [.agg [.val (.string ⟨⟨wdL x.op⟩⟩),.val (.bool (hasL x.op 65)),.val (.bool (hasL x.op 66)),.val (.bool (hasL x.op 67)),.val (.bool (hasL x.op 73))],.val (.bool (isOp x.op))],by rw[hv]; simp[Is,IsL,hasV],?_⟩
 (refine Y_go 600 ?_; dsimp only[go_sem,Nat.reduceBEq,reduceAdd])
 intro g2
 have rw0:plainB x=false→textL x=rawW++argL x rawN:=fun h=>by rw[textL,if_neg (by rw[h]; decide)]
 refine⟨fun h0=>fun a W rep=>raw g2 (hasL x.op 65) (hasL x.op 66) (hasL x.op 67) (hasL x.op 73) (rw0 (by simp_all [plainB,legalB])) a W (rep.lq),fun h0=>?_⟩
 have h0':isOp x.op=true:=by simpa using h0
 refine zj00 (vs:=[In.val x]) rfl (fun W hW=>legal13 x W) fun v hv=>⟨.val (.bool (legalB x)),by rw[hv]; simp[Is],?_⟩
 obtain⟨⟨bA,bB,bC,bI⟩,hp,hA,hB,hC,hI,hn⟩:=grp h0'
 dsimp only at hA hB hC hI hn
 simp only[hA,hB,hC,hI]
 simp only[List.mem_cons,Prod.mk.injEq,List.not_mem_nil,or_false] at hp
 rcases hp with⟨rfl,rfl,rfl,rfl⟩ | ⟨rfl,rfl,rfl,rfl⟩ | ⟨rfl,rfl,rfl,rfl⟩ | ⟨rfl,rfl,rfl,rfl⟩ | ⟨rfl,rfl,rfl,rfl⟩ | ⟨rfl,rfl,rfl,rfl⟩
 all_goals have hwd:=wd_len x.op
 ·(refine Y_go 600 ?_; dsimp only[go_sem,Nat.reduceBEq,reduceAdd])
  try simp only[Int.reduceBEq,Int.reduceBNe,Int.reduceToNat,Nat.reduceMul,reduceAdd,Int.reduceLT,Int.reduceLE,Int.reduceGT,Int.reduceGE,ge_iff_le,gt_iff_lt,Int.reduceSub,Int.reduceAdd,decide_true,decide_false,Bool.false_eq_true,Bool.true_eq_false,Bool.not_true,Bool.not_false,reduceCtorEq,false_implies,true_implies,forall_const,true_and,and_true]
  refine⟨fun h1=>fun a W rep=>raw g2 false false false false (rw0 (by simp[plainB,(by simpa using h1:legalB x=false)])) a W (rep.lq),fun h1=>?_⟩
  refine⟨fun eA=>fun a W rep=>raw g2 false false false false (rw0 (by simp[plainB,ok1,hA,fld,(by simpa using eA:x.a ≠ 0)])) a W (rep.lq),fun eA=>?_⟩
  refine⟨fun eB=>fun a W rep=>raw g2 false false false false (rw0 (by simp[plainB,ok1,hB,fld,(by simpa using eB:x.b ≠ 0)])) a W (rep.lq),fun eB=>?_⟩
  refine⟨fun eC=>fun a W rep=>raw g2 false false false false (rw0 (by simp[plainB,ok1,hC,fld,(by simpa using eC:x.c ≠ 0)])) a W (rep.lq),fun eC=>?_⟩
  refine⟨fun eI=>fun a W rep=>raw g2 false false false false (rw0 (by simp[plainB,ok1,hI,fld,(by simpa using eI:x.imm ≠ 0)])) a W (rep.lq),fun eI=>?_⟩
  have ht:textL x=wdL x.op++argL x (nmL x.op):=by rw[textL,if_pos (by simp_all [plainB,ok1,fld])]
  exact zj03 (vs:=[_]) r38 rfl rfl fun W hW=>hR _ _ ⟨by rw[ht,hn]; simp only[argL,List.flatMap_cons,List.flatMap_nil,List.cons_append,List.nil_append,List.append_assoc,List.append_nil,if_true,if_false,Bool.false_eq_true]; rfl,hW.fresh'⟩
 ·(refine Y_go 600 ?_; dsimp only[go_sem,Nat.reduceBEq,reduceAdd])
  try simp only[Int.reduceBEq,Int.reduceBNe,Int.reduceToNat,Nat.reduceMul,reduceAdd,Int.reduceLT,Int.reduceLE,Int.reduceGT,Int.reduceGE,ge_iff_le,gt_iff_lt,Int.reduceSub,Int.reduceAdd,decide_true,decide_false,Bool.false_eq_true,Bool.true_eq_false,Bool.not_true,Bool.not_false,reduceCtorEq,false_implies,true_implies,forall_const,true_and,and_true]
  refine⟨fun h1=>fun a W rep=>raw g2 true false false true (rw0 (by simp[plainB,(by simpa using h1:legalB x=false)])) a W (rep.lq),fun h1=>?_⟩
  refine⟨fun eB=>fun a W rep=>raw g2 true false false true (rw0 (by simp[plainB,ok1,hB,fld,(by simpa using eB:x.b ≠ 0)])) a W (rep.lq),fun eB=>?_⟩
  refine⟨fun eC=>fun a W rep=>raw g2 true false false true (rw0 (by simp[plainB,ok1,hC,fld,(by simpa using eC:x.c ≠ 0)])) a W (rep.lq),fun eC=>?_⟩
  have ht:textL x=wdL x.op++argL x (nmL x.op):=by rw[textL,if_pos (by simp_all [plainB,ok1,fld])]
  refine⟨by (first | (simp only[zj04,zj02,List.length_append,List.length_cons,List.length_nil]; omega) | (simp[ByteArray.size]; omega)),?_⟩
  try simp only[zj04]
  refine zj00 (vs:=[.int .i64 x.a]) rfl (fun W hW=>zj0d x.a W hx.2.1.1 hx.2.1.2) fun v hv=>⟨.val (.string ⟨⟨Lib.itoa x.a⟩⟩),by rw[hv]; simp[Is],?_⟩
  (refine Y_go 600 ?_; dsimp only[go_sem,Nat.reduceBEq,reduceAdd])
  try simp only[Int.reduceBEq,Int.reduceBNe,Int.reduceToNat,Nat.reduceMul,reduceAdd,Int.reduceLT,Int.reduceLE,Int.reduceGT,Int.reduceGE,ge_iff_le,gt_iff_lt,Int.reduceSub,Int.reduceAdd,decide_true,decide_false,Bool.false_eq_true,Bool.true_eq_false,Bool.not_true,Bool.not_false,reduceCtorEq,false_implies,true_implies,forall_const,true_and,and_true]
  refine⟨by (first | (simp only[zj04,zj02,List.length_append,List.length_cons,List.length_nil]; omega) | (simp[ByteArray.size]; omega)),?_⟩
  try simp only[zj04]
  refine⟨by (first | (simp only[zj04,zj02,List.length_append,List.length_cons,List.length_nil]; omega) | (simp[ByteArray.size]; omega)),?_⟩
  try simp only[zj04]
  refine zj00 (vs:=[.int .i64 x.imm]) rfl (fun W hW=>zj0d x.imm W hx.2.2.2.2.1 hx.2.2.2.2.2) fun v hv=>⟨.val (.string ⟨⟨Lib.itoa x.imm⟩⟩),by rw[hv]; simp[Is],?_⟩
  (refine Y_go 600 ?_; dsimp only[go_sem,Nat.reduceBEq])
  try simp only[Int.reduceBEq,Int.reduceBNe,Int.reduceToNat,Nat.reduceMul,reduceAdd,Int.reduceLT,Int.reduceLE,Int.reduceGT,Int.reduceGE,ge_iff_le,gt_iff_lt,Int.reduceSub,Int.reduceAdd,decide_true,decide_false,Bool.false_eq_true,Bool.true_eq_false,Bool.not_true,Bool.not_false,reduceCtorEq,false_implies,true_implies,forall_const,true_and,and_true]
  refine⟨by (first | (simp only[zj04,zj02,List.length_append,List.length_cons,List.length_nil]; omega) | (simp[ByteArray.size]; omega)),?_⟩
  try simp only[zj04]
  exact zj03 (vs:=[_]) r38 rfl rfl fun W hW=>hR _ _ ⟨by rw[ht,hn]; simp only[argL,List.flatMap_cons,List.flatMap_nil,List.cons_append,List.nil_append,List.append_assoc,List.append_nil,if_true,if_false,Bool.false_eq_true]; rfl,hW.fresh'⟩
 ·(refine Y_go 600 ?_; dsimp only[go_sem,Nat.reduceBEq,reduceAdd])
  try simp only[Int.reduceBEq,Int.reduceBNe,Int.reduceToNat,Nat.reduceMul,reduceAdd,Int.reduceLT,Int.reduceLE,Int.reduceGT,Int.reduceGE,ge_iff_le,gt_iff_lt,Int.reduceSub,Int.reduceAdd,decide_true,decide_false,Bool.false_eq_true,Bool.true_eq_false,Bool.not_true,Bool.not_false,reduceCtorEq,false_implies,true_implies,forall_const,true_and,and_true]
  refine⟨fun h1=>fun a W rep=>raw g2 true true false false (rw0 (by simp[plainB,(by simpa using h1:legalB x=false)])) a W (rep.lq),fun h1=>?_⟩
  refine⟨fun eC=>fun a W rep=>raw g2 true true false false (rw0 (by simp[plainB,ok1,hC,fld,(by simpa using eC:x.c ≠ 0)])) a W (rep.lq),fun eC=>?_⟩
  refine⟨fun eI=>fun a W rep=>raw g2 true true false false (rw0 (by simp[plainB,ok1,hI,fld,(by simpa using eI:x.imm ≠ 0)])) a W (rep.lq),fun eI=>?_⟩
  have ht:textL x=wdL x.op++argL x (nmL x.op):=by rw[textL,if_pos (by simp_all [plainB,ok1,fld])]
  refine⟨by (first | (simp only[zj04,zj02,List.length_append,List.length_cons,List.length_nil]; omega) | (simp[ByteArray.size]; omega)),?_⟩
  try simp only[zj04]
  refine zj00 (vs:=[.int .i64 x.a]) rfl (fun W hW=>zj0d x.a W hx.2.1.1 hx.2.1.2) fun v hv=>⟨.val (.string ⟨⟨Lib.itoa x.a⟩⟩),by rw[hv]; simp[Is],?_⟩
  (refine Y_go 600 ?_; dsimp only[go_sem,Nat.reduceBEq,reduceAdd])
  try simp only[Int.reduceBEq,Int.reduceBNe,Int.reduceToNat,Nat.reduceMul,reduceAdd,Int.reduceLT,Int.reduceLE,Int.reduceGT,Int.reduceGE,ge_iff_le,gt_iff_lt,Int.reduceSub,Int.reduceAdd,decide_true,decide_false,Bool.false_eq_true,Bool.true_eq_false,Bool.not_true,Bool.not_false,reduceCtorEq,false_implies,true_implies,forall_const,true_and,and_true]
  refine⟨by (first | (simp only[zj04,zj02,List.length_append,List.length_cons,List.length_nil]; omega) | (simp[ByteArray.size]; omega)),?_⟩
  try simp only[zj04]
  refine⟨by (first | (simp only[zj04,zj02,List.length_append,List.length_cons,List.length_nil]; omega) | (simp[ByteArray.size]; omega)),?_⟩
  try simp only[zj04]
  refine zj00 (vs:=[.int .i64 x.b]) rfl (fun W hW=>zj0d x.b W hx.2.2.1.1 hx.2.2.1.2) fun v hv=>⟨.val (.string ⟨⟨Lib.itoa x.b⟩⟩),by rw[hv]; simp[Is],?_⟩
  (refine Y_go 600 ?_; dsimp only[go_sem,Nat.reduceBEq,reduceAdd])
  try simp only[Int.reduceBEq,Int.reduceBNe,Int.reduceToNat,Nat.reduceMul,reduceAdd,Int.reduceLT,Int.reduceLE,Int.reduceGT,Int.reduceGE,ge_iff_le,gt_iff_lt,Int.reduceSub,Int.reduceAdd,decide_true,decide_false,Bool.false_eq_true,Bool.true_eq_false,Bool.not_true,Bool.not_false,reduceCtorEq,false_implies,true_implies,forall_const,true_and,and_true]
  refine⟨by (first | (simp only[zj04,zj02,List.length_append,List.length_cons,List.length_nil]; omega) | (simp[ByteArray.size]; omega)),?_⟩
  try simp only[zj04]
  exact zj03 (vs:=[_]) r38 rfl rfl fun W hW=>hR _ _ ⟨by rw[ht,hn]; simp only[argL,List.flatMap_cons,List.flatMap_nil,List.cons_append,List.nil_append,List.append_assoc,List.append_nil,if_true,if_false,Bool.false_eq_true]; rfl,hW.fresh'⟩
 ·(refine Y_go 600 ?_; dsimp only[go_sem,Nat.reduceBEq,reduceAdd])
  try simp only[Int.reduceBEq,Int.reduceBNe,Int.reduceToNat,Nat.reduceMul,reduceAdd,Int.reduceLT,Int.reduceLE,Int.reduceGT,Int.reduceGE,ge_iff_le,gt_iff_lt,Int.reduceSub,Int.reduceAdd,decide_true,decide_false,Bool.false_eq_true,Bool.true_eq_false,Bool.not_true,Bool.not_false,reduceCtorEq,false_implies,true_implies,forall_const,true_and,and_true]
  refine⟨fun h1=>fun a W rep=>raw g2 true true true false (rw0 (by simp[plainB,(by simpa using h1:legalB x=false)])) a W (rep.lq),fun h1=>?_⟩
  refine⟨fun eI=>fun a W rep=>raw g2 true true true false (rw0 (by simp[plainB,ok1,hI,fld,(by simpa using eI:x.imm ≠ 0)])) a W (rep.lq),fun eI=>?_⟩
  have ht:textL x=wdL x.op++argL x (nmL x.op):=by rw[textL,if_pos (by simp_all [plainB,ok1,fld])]
  refine⟨by (first | (simp only[zj04,zj02,List.length_append,List.length_cons,List.length_nil]; omega) | (simp[ByteArray.size]; omega)),?_⟩
  try simp only[zj04]
  refine zj00 (vs:=[.int .i64 x.a]) rfl (fun W hW=>zj0d x.a W hx.2.1.1 hx.2.1.2) fun v hv=>⟨.val (.string ⟨⟨Lib.itoa x.a⟩⟩),by rw[hv]; simp[Is],?_⟩
  (refine Y_go 600 ?_; dsimp only[go_sem,Nat.reduceBEq,reduceAdd])
  try simp only[Int.reduceBEq,Int.reduceBNe,Int.reduceToNat,Nat.reduceMul,reduceAdd,Int.reduceLT,Int.reduceLE,Int.reduceGT,Int.reduceGE,ge_iff_le,gt_iff_lt,Int.reduceSub,Int.reduceAdd,decide_true,decide_false,Bool.false_eq_true,Bool.true_eq_false,Bool.not_true,Bool.not_false,reduceCtorEq,false_implies,true_implies,forall_const,true_and,and_true]
  refine⟨by (first | (simp only[zj04,zj02,List.length_append,List.length_cons,List.length_nil]; omega) | (simp[ByteArray.size]; omega)),?_⟩
  try simp only[zj04]
  refine⟨by (first | (simp only[zj04,zj02,List.length_append,List.length_cons,List.length_nil]; omega) | (simp[ByteArray.size]; omega)),?_⟩
  try simp only[zj04]
  refine zj00 (vs:=[.int .i64 x.b]) rfl (fun W hW=>zj0d x.b W hx.2.2.1.1 hx.2.2.1.2) fun v hv=>⟨.val (.string ⟨⟨Lib.itoa x.b⟩⟩),by rw[hv]; simp[Is],?_⟩
  (refine Y_go 600 ?_; dsimp only[go_sem,Nat.reduceBEq,reduceAdd])
  try simp only[Int.reduceBEq,Int.reduceBNe,Int.reduceToNat,Nat.reduceMul,reduceAdd,Int.reduceLT,Int.reduceLE,Int.reduceGT,Int.reduceGE,ge_iff_le,gt_iff_lt,Int.reduceSub,Int.reduceAdd,decide_true,decide_false,Bool.false_eq_true,Bool.true_eq_false,Bool.not_true,Bool.not_false,reduceCtorEq,false_implies,true_implies,forall_const,true_and,and_true]
  refine⟨by (first | (simp only[zj04,zj02,List.length_append,List.length_cons,List.length_nil]; omega) | (simp[ByteArray.size]; omega)),?_⟩
  try simp only[zj04]
  refine⟨by (first | (simp only[zj04,zj02,List.length_append,List.length_cons,List.length_nil]; omega) | (simp[ByteArray.size]; omega)),?_⟩
  try simp only[zj04]
  refine zj00 (vs:=[.int .i64 x.c]) rfl (fun W hW=>zj0d x.c W hx.2.2.2.1.1 hx.2.2.2.1.2) fun v hv=>⟨.val (.string ⟨⟨Lib.itoa x.c⟩⟩),by rw[hv]; simp[Is],?_⟩
  (refine Y_go 600 ?_; dsimp only[go_sem,Nat.reduceBEq,reduceAdd])
  try simp only[Int.reduceBEq,Int.reduceBNe,Int.reduceToNat,Nat.reduceMul,reduceAdd,Int.reduceLT,Int.reduceLE,Int.reduceGT,Int.reduceGE,ge_iff_le,gt_iff_lt,Int.reduceSub,Int.reduceAdd,decide_true,decide_false,Bool.false_eq_true,Bool.true_eq_false,Bool.not_true,Bool.not_false,reduceCtorEq,false_implies,true_implies,forall_const,true_and,and_true]
  refine⟨by (first | (simp only[zj04,zj02,List.length_append,List.length_cons,List.length_nil]; omega) | (simp[ByteArray.size]; omega)),?_⟩
  try simp only[zj04]
  exact zj03 (vs:=[_]) r38 rfl rfl fun W hW=>hR _ _ ⟨by rw[ht,hn]; simp only[argL,List.flatMap_cons,List.flatMap_nil,List.cons_append,List.nil_append,List.append_assoc,List.append_nil,if_true,if_false,Bool.false_eq_true]; rfl,hW.fresh'⟩
 ·(refine Y_go 600 ?_; dsimp only[go_sem,Nat.reduceBEq,reduceAdd])
  try simp only[Int.reduceBEq,Int.reduceBNe,Int.reduceToNat,Nat.reduceMul,reduceAdd,Int.reduceLT,Int.reduceLE,Int.reduceGT,Int.reduceGE,ge_iff_le,gt_iff_lt,Int.reduceSub,Int.reduceAdd,decide_true,decide_false,Bool.false_eq_true,Bool.true_eq_false,Bool.not_true,Bool.not_false,reduceCtorEq,false_implies,true_implies,forall_const,true_and,and_true]
  refine⟨fun h1=>fun a W rep=>raw g2 true true false true (rw0 (by simp[plainB,(by simpa using h1:legalB x=false)])) a W (rep.lq),fun h1=>?_⟩
  refine⟨fun eC=>fun a W rep=>raw g2 true true false true (rw0 (by simp[plainB,ok1,hC,fld,(by simpa using eC:x.c ≠ 0)])) a W (rep.lq),fun eC=>?_⟩
  have ht:textL x=wdL x.op++argL x (nmL x.op):=by rw[textL,if_pos (by simp_all [plainB,ok1,fld])]
  refine⟨by (first | (simp only[zj04,zj02,List.length_append,List.length_cons,List.length_nil]; omega) | (simp[ByteArray.size]; omega)),?_⟩
  try simp only[zj04]
  refine zj00 (vs:=[.int .i64 x.a]) rfl (fun W hW=>zj0d x.a W hx.2.1.1 hx.2.1.2) fun v hv=>⟨.val (.string ⟨⟨Lib.itoa x.a⟩⟩),by rw[hv]; simp[Is],?_⟩
  (refine Y_go 600 ?_; dsimp only[go_sem,Nat.reduceBEq,reduceAdd])
  try simp only[Int.reduceBEq,Int.reduceBNe,Int.reduceToNat,Nat.reduceMul,reduceAdd,Int.reduceLT,Int.reduceLE,Int.reduceGT,Int.reduceGE,ge_iff_le,gt_iff_lt,Int.reduceSub,Int.reduceAdd,decide_true,decide_false,Bool.false_eq_true,Bool.true_eq_false,Bool.not_true,Bool.not_false,reduceCtorEq,false_implies,true_implies,forall_const,true_and,and_true]
  refine⟨by (first | (simp only[zj04,zj02,List.length_append,List.length_cons,List.length_nil]; omega) | (simp[ByteArray.size]; omega)),?_⟩
  try simp only[zj04]
  refine⟨by (first | (simp only[zj04,zj02,List.length_append,List.length_cons,List.length_nil]; omega) | (simp[ByteArray.size]; omega)),?_⟩
  try simp only[zj04]
  refine zj00 (vs:=[.int .i64 x.b]) rfl (fun W hW=>zj0d x.b W hx.2.2.1.1 hx.2.2.1.2) fun v hv=>⟨.val (.string ⟨⟨Lib.itoa x.b⟩⟩),by rw[hv]; simp[Is],?_⟩
  (refine Y_go 600 ?_; dsimp only[go_sem,Nat.reduceBEq,reduceAdd])
  try simp only[Int.reduceBEq,Int.reduceBNe,Int.reduceToNat,Nat.reduceMul,reduceAdd,Int.reduceLT,Int.reduceLE,Int.reduceGT,Int.reduceGE,ge_iff_le,gt_iff_lt,Int.reduceSub,Int.reduceAdd,decide_true,decide_false,Bool.false_eq_true,Bool.true_eq_false,Bool.not_true,Bool.not_false,reduceCtorEq,false_implies,true_implies,forall_const,true_and,and_true]
  refine⟨by (first | (simp only[zj04,zj02,List.length_append,List.length_cons,List.length_nil]; omega) | (simp[ByteArray.size]; omega)),?_⟩
  try simp only[zj04]
  refine⟨by (first | (simp only[zj04,zj02,List.length_append,List.length_cons,List.length_nil]; omega) | (simp[ByteArray.size]; omega)),?_⟩
  try simp only[zj04]
  refine zj00 (vs:=[.int .i64 x.imm]) rfl (fun W hW=>zj0d x.imm W hx.2.2.2.2.1 hx.2.2.2.2.2) fun v hv=>⟨.val (.string ⟨⟨Lib.itoa x.imm⟩⟩),by rw[hv]; simp[Is],?_⟩
  (refine Y_go 600 ?_; dsimp only[go_sem,Nat.reduceBEq])
  try simp only[Int.reduceBEq,Int.reduceBNe,Int.reduceToNat,Nat.reduceMul,reduceAdd,Int.reduceLT,Int.reduceLE,Int.reduceGT,Int.reduceGE,ge_iff_le,gt_iff_lt,Int.reduceSub,Int.reduceAdd,decide_true,decide_false,Bool.false_eq_true,Bool.true_eq_false,Bool.not_true,Bool.not_false,reduceCtorEq,false_implies,true_implies,forall_const,true_and,and_true]
  refine⟨by (first | (simp only[zj04,zj02,List.length_append,List.length_cons,List.length_nil]; omega) | (simp[ByteArray.size]; omega)),?_⟩
  try simp only[zj04]
  exact zj03 (vs:=[_]) r38 rfl rfl fun W hW=>hR _ _ ⟨by rw[ht,hn]; simp only[argL,List.flatMap_cons,List.flatMap_nil,List.cons_append,List.nil_append,List.append_assoc,List.append_nil,if_true,if_false,Bool.false_eq_true]; rfl,hW.fresh'⟩
 ·(refine Y_go 600 ?_; dsimp only[go_sem,Nat.reduceBEq,reduceAdd])
  try simp only[Int.reduceBEq,Int.reduceBNe,Int.reduceToNat,Nat.reduceMul,reduceAdd,Int.reduceLT,Int.reduceLE,Int.reduceGT,Int.reduceGE,ge_iff_le,gt_iff_lt,Int.reduceSub,Int.reduceAdd,decide_true,decide_false,Bool.false_eq_true,Bool.true_eq_false,Bool.not_true,Bool.not_false,reduceCtorEq,false_implies,true_implies,forall_const,true_and,and_true]
  refine⟨fun h1=>fun a W rep=>raw g2 false false false true (rw0 (by simp[plainB,(by simpa using h1:legalB x=false)])) a W (rep.lq),fun h1=>?_⟩
  refine⟨fun eA=>fun a W rep=>raw g2 false false false true (rw0 (by simp[plainB,ok1,hA,fld,(by simpa using eA:x.a ≠ 0)])) a W (rep.lq),fun eA=>?_⟩
  refine⟨fun eB=>fun a W rep=>raw g2 false false false true (rw0 (by simp[plainB,ok1,hB,fld,(by simpa using eB:x.b ≠ 0)])) a W (rep.lq),fun eB=>?_⟩
  refine⟨fun eC=>fun a W rep=>raw g2 false false false true (rw0 (by simp[plainB,ok1,hC,fld,(by simpa using eC:x.c ≠ 0)])) a W (rep.lq),fun eC=>?_⟩
  have ht:textL x=wdL x.op++argL x (nmL x.op):=by rw[textL,if_pos (by simp_all [plainB,ok1,fld])]
  refine⟨by (first | (simp only[zj04,zj02,List.length_append,List.length_cons,List.length_nil]; omega) | (simp[ByteArray.size]; omega)),?_⟩
  try simp only[zj04]
  refine zj00 (vs:=[.int .i64 x.imm]) rfl (fun W hW=>zj0d x.imm W hx.2.2.2.2.1 hx.2.2.2.2.2) fun v hv=>⟨.val (.string ⟨⟨Lib.itoa x.imm⟩⟩),by rw[hv]; simp[Is],?_⟩
  (refine Y_go 600 ?_; dsimp only[go_sem,Nat.reduceBEq])
  try simp only[Int.reduceBEq,Int.reduceBNe,Int.reduceToNat,Nat.reduceMul,reduceAdd,Int.reduceLT,Int.reduceLE,Int.reduceGT,Int.reduceGE,ge_iff_le,gt_iff_lt,Int.reduceSub,Int.reduceAdd,decide_true,decide_false,Bool.false_eq_true,Bool.true_eq_false,Bool.not_true,Bool.not_false,reduceCtorEq,false_implies,true_implies,forall_const,true_and,and_true]
  refine⟨by (first | (simp only[zj04,zj02,List.length_append,List.length_cons,List.length_nil]; omega) | (simp[ByteArray.size]; omega)),?_⟩
  try simp only[zj04]
  exact zj03 (vs:=[_]) r38 rfl rfl fun W hW=>hR _ _ ⟨by rw[ht,hn]; simp only[argL,List.flatMap_cons,List.flatMap_nil,List.cons_append,List.nil_append,List.append_assoc,List.append_nil,if_true,if_false,Bool.false_eq_true]; rfl,hW.fresh'⟩
end Go.Proofs.YtaiajnehnjnadaaGreatDoor
