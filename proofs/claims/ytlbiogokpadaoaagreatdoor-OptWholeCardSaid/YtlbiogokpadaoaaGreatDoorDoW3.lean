/- The document's shifted. -/
import Derived.Test.YtlbiogokpadaoaaGreatDoorDoW1
set_option linter.unusedSimpArgs false
set_option linter.unusedVariables false
set_option linter.unnecessarySimpa false
namespace Go.Proofs.YtlbiogokpadaoaaGreatDoor
open Go Go.Sx Go.Isa
open Nat (reduceAdd reduceLT)
set_option maxRecDepth 100000
theorem div2 {v:Int} (h:0≤v) (k:Nat):v / (2 ^ k*2)=v / 2 ^ k / 2:=by
 obtain⟨n,rfl⟩:=Int.eq_ofNat_of_zero_le h
 exact_mod_cast (Nat.div_div_eq_div_mul n (2 ^ k) 2).symm
theorem zj6i (v by':Int) (left:Bool) (w:World) (hv:isU v) (hb:isU by'):CallsV Tryz.prog 121 [.int .u64 v,.int .u64 by',.bool left] w fun u w'=>u=.int .u64 (if left then w64 (v*2 ^ (by' % 64).toNat) else v / 2 ^ (by' % 64).toNat)∧Fresh w w':=by
 refine zj03 (keep:=K121) (nt:=21) (svs:=[.val (.int .u64 v),.val (.int .u64 by'),.val (.bool left)]) Tryz.func121 x121 n121 (by simp) (by simp[IsL,Is]) fun R hR=>?_
 (refine Y_go 600 ?_; dsimp only[go_sem,reduceAdd,Nat.reduceBEq])
 refine zj04 (α:=Nat) (fun k=>(k:Int)≤by' % 64) (fun _=>⟨w,w.heap.size,[],21,[]⟩)
  (fun k=>{ F:=[(0,.val (.int .u64 (if left then w64 (v*2 ^ k) else v / 2 ^ k))),(1,.val (.int .u64 by')),(2,.val (.bool left)),(7,.val (.int .u64 k))],H:=[] }) (fun k=>(by' % 64).toNat - k) (fun _=>rfl) ?start ?round
 case start =>
  intro a W rep
  refine⟨0,by have:=Int.emod_nonneg by' (show (64:Int) ≠ 0 by decide); omega,rep.le ?_ ?_⟩ <;> (simp only[go_sem,lk,Nat.reduceBEq,reduceLT,reduceAdd] <;> try simp)
  cases left <;> simp[w64]
  unfold isU at hv; omega
 case round =>
  intro k hk I hI
  have hk:(k:Int)≤by' % 64:=hk
  unfold isU at hb hv
  (refine Y_go 600 ?_; dsimp only[go_sem,Nat.reduceBEq])
  refine⟨by' % 64,.rem_nn (by omega) (by omega),⟨fun h1=>?_,fun h1=>?_⟩⟩
  ·have h1:=of_decide_eq_true h1
   have hn:∀ z:Int,ArOk .add .u64 (k:Int) 1 ((k+1:Nat):Int):=fun _=>by
    show ((k+1:Nat):Int)=IntKind.wrap .u64 ((k:Int)+1)
    simp[IntKind.wrap,IntKind.bits,IntKind.signed]; omega
   have hp:(2:Int) ^ (k+1)=2*2 ^ k:=by rw[Int.pow_succ]; omega
   refine⟨fun hl=>?_,fun hl=>?_⟩
   ·subst hl
    refine⟨w64 (v*2 ^ (k+1)),?_,_,hn 0,zj00 fun a W rep=>hI (k+1) (by show ((k+1:Nat):Int)≤_; omega) (by show _ - (k+1) < _ - k; omega) a W (rep.le ?_ ?_)⟩
    ·show _=IntKind.wrap .u64 _
     have:v*2 ^ (k+1)=v*2 ^ k+v*2 ^ k:=by rw[hp,← Int.mul_add]; congr 1; omega
     rw[this]
     simp[IntKind.wrap,IntKind.bits,IntKind.signed,w64]
    ·(simp only[go_sem,lk,Nat.reduceBEq,reduceLT,reduceAdd] <;> try simp)
    ·(simp only[go_sem,lk,Nat.reduceBEq,reduceLT,reduceAdd] <;> try simp)
   ·subst hl
    refine⟨v / 2 ^ (k+1),?_,_,hn 0,zj00 fun a W rep=>hI (k+1) (by show ((k+1:Nat):Int)≤_; omega) (by show _ - (k+1) < _ - k; omega) a W (rep.le ?_ ?_)⟩
    ·have h0:(0:Int)≤v / 2 ^ k:=Int.ediv_nonneg hv.1 (Int.le_of_lt (Int.pow_pos (by decide)))
     have h2:v / 2 ^ k≤v:=Int.ediv_le_self _ hv.1
     refine⟨by omega,?_⟩
     show v / 2 ^ (k+1)=IntKind.wrap .u64 ((v / 2 ^ k).tdiv 2)
     rw[Int.tdiv_eq_ediv_of_nonneg h0,hp,Int.mul_comm,div2 hv.1]
     simp[IntKind.wrap,IntKind.bits,IntKind.signed]; omega
    ·(simp only[go_sem,lk,Nat.reduceBEq,reduceLT,reduceAdd] <;> try simp)
    ·(simp only[go_sem,lk,Nat.reduceBEq,reduceLT,reduceAdd] <;> try simp)
  ·have h1:=of_decide_eq_false h1
   have e:(by' % 64).toNat=k:=by omega
   exact zj02 (vs:=[_]) r121 rfl rfl fun W hW=>hR _ _ ⟨by rw[e]; rfl,hW.fresh'⟩
theorem zj2w {C:Cx} {E:Env} {k:List KI} {s:SS} (i:Nat) {g:Nat} {t:TypeId} {l:List SV} {xs:List Value} (hi:nth s.H i=some (.cells g t l)) (hx:denL s.H l=some xs) (h:G C E k { F:=s.F,H:=setn s.H i (.row g t xs) }):G C E k s :=
 fun a W rep=>h a W (rep.torow i hi hx)
theorem rgAt {r:List Int} (h:r.length=8) {a:Int} (h0:0≤a) (h1:a < 8):(r.map uV)[0+a.toNat*1]? = some (.int .u64 (rg r a)):=by
 have e:a % 8=a:=by omega
 have:=rg_at h a
 rw[e] at this
 rw[Nat.mul_one,Nat.zero_add]; exact this
theorem isRegI {n:Int} (h:isReg n=true):0≤n∧n < 8:=by simpa [isReg] using h
section
variable (x:In) (r0 r1 r2 r3 r4 r5 r6 r7 pc:Int) (w:World)
def Post92 (x:In) (r:List Int) (pc:Int) (w:World):Value→World→Prop:=fun v w'=>v=Ef.val (doB x r pc)∧Fresh w w'
def Walk92 (x:In) (r:List Int) (pc:Int) (w:World):Prop:=CallsV Tryz.prog 92 [In.val x,.agg (r.map uV).toArray,.int .i64 pc] w (Post92 x r pc w)
set_option maxHeartbeats 40000000 in
theorem do92_a (x:In) (r0 r1 r2 r3 r4 r5 r6 r7 pc:Int) (w:World) (ho:x.op=1∨x.op=13∨x.op=17∨x.op=18) (hU:∀ n ∈ [r0,r1,r2,r3,r4,r5,r6,r7],isU n):Walk92 x [r0,r1,r2,r3,r4,r5,r6,r7] pc w:=by
 have hru:∀ n,isU (rg [r0,r1,r2,r3,r4,r5,r6,r7] n):=by
  intro n
  unfold rg
  rw[List.getD_eq_getElem?_getD]
  cases h:[r0,r1,r2,r3,r4,r5,r6,r7][(n % 8).toNat]? with
  | none=>simp[isU]
  | some v=>exact hU _ (List.mem_of_getElem? h)
 refine zj03 (keep:=K92) (nt:=197) (svs:=[.agg (In.sv x),.agg [.val (.int .u64 r0),.val (.int .u64 r1),.val (.int .u64 r2),.val (.int .u64 r3),.val (.int .u64 r4),.val (.int .u64 r5),.val (.int .u64 r6),.val (.int .u64 r7)],.val (.int .i64 pc)]) Tryz.func92 x92 n92 (by simp) (by simp[IsL,Is,In.sv,In.val,In.cells,uV]) fun R hR=>?_
 (refine Y_go 600 ?_; dsimp only[go_sem,In.sv,reduceAdd,Nat.reduceBEq])
 intro g1 g2 g3
 refine zj2w 1 (xs:=[.int .u64 r0,.int .u64 r1,.int .u64 r2,.int .u64 r3,.int .u64 r4,.int .u64 r5,.int .u64 r6,.int .u64 r7]) rfl rfl ?_
 dsimp only[setn]
 have fin:∀ (e:Ef) F H,doB x [r0,r1,r2,r3,r4,r5,r6,r7] pc=e→denR H F [RV.cell 6 5 true]=some [Ef.val e]→RetG (cxOf Tryz.prog Tryz.f92 K92 T92 R) ⟨w,w.heap.size,[],197,[]⟩ { F:=F,H:=H }:=by
  intro e F H he hd
  refine ret_rv (vs:=[Ef.val e]) r92 rfl hd fun W hW=>hR _ _ ⟨by rw[he]; rfl,hW.fresh'⟩
 refine zj01 (vs:=[.int .i64 x.op]) rfl (fun W hW=>zj33 x.op W) fun v ⟨wd,hv⟩=>⟨.tup [.agg [.val (.string wd),.bf,.bf,.bf,.val (.bool (hasL x.op 73))],.bt],by rw[hv,show isOp x.op=true by rcases ho with h | h | h | h <;> rw[h] <;> rfl,show hasV x.op wd=.agg #[.string wd,.bool false,.bool false,.bool false,.bool (hasL x.op 73)] by rcases ho with h | h | h | h <;> rw[h] <;> rfl]; simp[Is,IsL],?_⟩
 (refine Y_go 600 ?_; dsimp only[go_sem,Nat.reduceBEq,reduceAdd])
 intro g4
 cases hl:legalB x with
 | false =>
  refine zj01 (vs:=[In.val x]) rfl (fun W hW=>zj17 x W) fun v hv=>⟨.bf,by rw[hv,hl]; simp[Is],?_⟩
  (refine Y_go 600 ?_; dsimp only[go_sem,Nat.reduceBEq,reduceAdd])
  exact fin Ef.zero _ _ (by simp[doB,hl]) rfl
 | true =>
  refine zj01 (vs:=[In.val x]) rfl (fun W hW=>zj17 x W) fun v hv=>⟨.bt,by rw[hv,hl]; simp[Is],?_⟩
  have hll:=hl
  simp only[legalB,Bool.and_eq_true] at hll
  obtain⟨⟨⟨_,hla⟩,hlb⟩,hlc⟩:=hll
  have ua:=hru x.a; have ub:=hru x.b; have uc:=hru x.c
  have hz:¬ (0≤pc∧pc < 1024)→doB x [r0,r1,r2,r3,r4,r5,r6,r7] pc=Ef.zero:=fun h=>by rw[doB,if_neg (fun k=>h k.2)]
  have hd:0≤pc∧pc < 1024→doB x [r0,r1,r2,r3,r4,r5,r6,r7] pc=doE x (rg [r0,r1,r2,r3,r4,r5,r6,r7] x.a) (rg [r0,r1,r2,r3,r4,r5,r6,r7] x.b) (rg [r0,r1,r2,r3,r4,r5,r6,r7] x.c) pc:=fun hp=>by rw[doB,if_pos ⟨hl,hp⟩]
  (refine Y_go 600 ?_; dsimp only[go_sem,Nat.reduceBEq,reduceAdd])
  refine⟨fun h=>fin Ef.zero _ _ (hz (by have:=of_decide_eq_true h; omega)) rfl,fun h=>⟨fun h2=>fin Ef.zero _ _ (hz (by have:=of_decide_eq_true h2; omega)) rfl,fun h2=>?_⟩⟩
  have h:=of_decide_eq_false h
  have h2:=of_decide_eq_false h2
  have hp:0≤pc∧pc < 1024:=by omega
  have hd:=hd hp
  rw[hd] at fin
  refine⟨_,.to rfl (by omega) (by omega),fun g5=>?_⟩
  rcases ho with ho | ho | ho | ho
  all_goals simp only[ho]
  all_goals simp only[Int.reduceBEq,Int.reduceBNe,Int.reduceToNat,Nat.reduceMul,reduceAdd,Int.reduceLT,Int.reduceLE,Int.reduceGT,Int.reduceGE,ge_iff_le,gt_iff_lt,Int.reduceSub,Int.reduceAdd,decide_true,decide_false,Bool.false_eq_true,Bool.true_eq_false,Bool.not_true,Bool.not_false,reduceCtorEq,false_implies,true_implies,forall_const,true_and,and_true]
  ·refine⟨_,.to rfl (by omega) (by omega),?_⟩
   refine fin (doE x (rg [r0,r1,r2,r3,r4,r5,r6,r7] x.a) (rg [r0,r1,r2,r3,r4,r5,r6,r7] x.b) (rg [r0,r1,r2,r3,r4,r5,r6,r7] x.c) pc) _ _ rfl ?_
   simp only[doE,ho]; rfl
  ·refine⟨_,.to rfl (by omega) (by omega),?_⟩
   refine⟨fun i1=>?_,fun i1=>⟨fun i2=>?_,fun i2=>?_⟩⟩
   ·have i1:=of_decide_eq_true i1
    exact fin Ef.zero _ _ (by simp only[doE,ho,goE]; simp; omega) rfl
   ·have i2:=of_decide_eq_true i2
    exact fin Ef.zero _ _ (by simp only[doE,ho,goE]; simp; omega) rfl
   ·have i1:=of_decide_eq_false i1; have i2:=of_decide_eq_false i2
    exact fin ⟨2,x.imm,0,0,0⟩ _ _ (by simp only[doE,ho,goE]; simp; omega) rfl
  ·refine⟨_,.to rfl (by omega) (by omega),?_⟩
   refine fin (doE x (rg [r0,r1,r2,r3,r4,r5,r6,r7] x.a) (rg [r0,r1,r2,r3,r4,r5,r6,r7] x.b) (rg [r0,r1,r2,r3,r4,r5,r6,r7] x.c) pc) _ _ rfl ?_
   simp only[doE,ho]; rfl
  ·refine⟨_,.to rfl (by omega) (by omega),?_⟩
   refine fin (doE x (rg [r0,r1,r2,r3,r4,r5,r6,r7] x.a) (rg [r0,r1,r2,r3,r4,r5,r6,r7] x.b) (rg [r0,r1,r2,r3,r4,r5,r6,r7] x.c) pc) _ _ rfl ?_
   simp only[doE,ho]; rfl
set_option maxHeartbeats 40000000 in
theorem do92_b (x:In) (r0 r1 r2 r3 r4 r5 r6 r7 pc:Int) (w:World) (ho:x.op=2) (hU:∀ n ∈ [r0,r1,r2,r3,r4,r5,r6,r7],isU n):Walk92 x [r0,r1,r2,r3,r4,r5,r6,r7] pc w:=by
 have hru:∀ n,isU (rg [r0,r1,r2,r3,r4,r5,r6,r7] n):=by
  intro n
  unfold rg
  rw[List.getD_eq_getElem?_getD]
  cases h:[r0,r1,r2,r3,r4,r5,r6,r7][(n % 8).toNat]? with
  | none=>simp[isU]
  | some v=>exact hU _ (List.mem_of_getElem? h)
 refine zj03 (keep:=K92) (nt:=197) (svs:=[.agg (In.sv x),.agg [.val (.int .u64 r0),.val (.int .u64 r1),.val (.int .u64 r2),.val (.int .u64 r3),.val (.int .u64 r4),.val (.int .u64 r5),.val (.int .u64 r6),.val (.int .u64 r7)],.val (.int .i64 pc)]) Tryz.func92 x92 n92 (by simp) (by simp[IsL,Is,In.sv,In.val,In.cells,uV]) fun R hR=>?_
 (refine Y_go 600 ?_; dsimp only[go_sem,In.sv,reduceAdd,Nat.reduceBEq])
 intro g1 g2 g3
 refine zj2w 1 (xs:=[.int .u64 r0,.int .u64 r1,.int .u64 r2,.int .u64 r3,.int .u64 r4,.int .u64 r5,.int .u64 r6,.int .u64 r7]) rfl rfl ?_
 dsimp only[setn]
 have fin:∀ (e:Ef) F H,doB x [r0,r1,r2,r3,r4,r5,r6,r7] pc=e→denR H F [RV.cell 6 5 true]=some [Ef.val e]→RetG (cxOf Tryz.prog Tryz.f92 K92 T92 R) ⟨w,w.heap.size,[],197,[]⟩ { F:=F,H:=H }:=by
  intro e F H he hd
  refine ret_rv (vs:=[Ef.val e]) r92 rfl hd fun W hW=>hR _ _ ⟨by rw[he]; rfl,hW.fresh'⟩
 refine zj01 (vs:=[.int .i64 x.op]) rfl (fun W hW=>zj33 x.op W) fun v ⟨wd,hv⟩=>⟨.tup [.agg [.val (.string wd),.bt,.bf,.bf,.val (.bool (hasL x.op 73))],.bt],by rw[hv,show isOp x.op=true by rw[ho]; rfl,show hasV x.op wd=.agg #[.string wd,.bool true,.bool false,.bool false,.bool (hasL x.op 73)] by rw[ho]; rfl]; simp[Is,IsL],?_⟩
 (refine Y_go 600 ?_; dsimp only[go_sem,Nat.reduceBEq,reduceAdd])
 intro g4
 cases hl:legalB x with
 | false =>
  refine zj01 (vs:=[In.val x]) rfl (fun W hW=>zj17 x W) fun v hv=>⟨.bf,by rw[hv,hl]; simp[Is],?_⟩
  (refine Y_go 600 ?_; dsimp only[go_sem,Nat.reduceBEq,reduceAdd])
  exact fin Ef.zero _ _ (by simp[doB,hl]) rfl
 | true =>
  refine zj01 (vs:=[In.val x]) rfl (fun W hW=>zj17 x W) fun v hv=>⟨.bt,by rw[hv,hl]; simp[Is],?_⟩
  have hll:=hl
  simp only[legalB,Bool.and_eq_true] at hll
  obtain⟨⟨⟨_,hla⟩,hlb⟩,hlc⟩:=hll
  have ua:=hru x.a; have ub:=hru x.b; have uc:=hru x.c
  have hz:¬ (0≤pc∧pc < 1024)→doB x [r0,r1,r2,r3,r4,r5,r6,r7] pc=Ef.zero:=fun h=>by rw[doB,if_neg (fun k=>h k.2)]
  have hd:0≤pc∧pc < 1024→doB x [r0,r1,r2,r3,r4,r5,r6,r7] pc=doE x (rg [r0,r1,r2,r3,r4,r5,r6,r7] x.a) (rg [r0,r1,r2,r3,r4,r5,r6,r7] x.b) (rg [r0,r1,r2,r3,r4,r5,r6,r7] x.c) pc:=fun hp=>by rw[doB,if_pos ⟨hl,hp⟩]
  (refine Y_go 600 ?_; dsimp only[go_sem,Nat.reduceBEq,reduceAdd])
  refine⟨fun h=>fin Ef.zero _ _ (hz (by have:=of_decide_eq_true h; omega)) rfl,fun h=>⟨fun h2=>fin Ef.zero _ _ (hz (by have:=of_decide_eq_true h2; omega)) rfl,fun h2=>?_⟩⟩
  have h:=of_decide_eq_false h
  have h2:=of_decide_eq_false h2
  have hp:0≤pc∧pc < 1024:=by omega
  have hd:=hd hp
  rw[hd] at fin
  have ha:=isRegI (n:=x.a) (by have e:hasL x.op 65=true:=(by rw[ho]; rfl); simp only[e] at hla; simpa using hla)
  refine⟨⟨ha.1,ha.2⟩,_,rgAt (r:=[r0,r1,r2,r3,r4,r5,r6,r7]) rfl ha.1 ha.2,_,.to rfl (by omega) (by omega),fun g5=>?_⟩
  all_goals simp only[ho]
  all_goals simp only[Int.reduceBEq,Int.reduceBNe,Int.reduceToNat,Nat.reduceMul,reduceAdd,Int.reduceLT,Int.reduceLE,Int.reduceGT,Int.reduceGE,ge_iff_le,gt_iff_lt,Int.reduceSub,Int.reduceAdd,decide_true,decide_false,Bool.false_eq_true,Bool.true_eq_false,Bool.not_true,Bool.not_false,reduceCtorEq,false_implies,true_implies,forall_const,true_and,and_true]
  ·refine⟨_,convU _,?_⟩
   refine fin (doE x (rg [r0,r1,r2,r3,r4,r5,r6,r7] x.a) (rg [r0,r1,r2,r3,r4,r5,r6,r7] x.b) (rg [r0,r1,r2,r3,r4,r5,r6,r7] x.c) pc) _ _ rfl ?_
   simp only[doE,ho]; rfl
set_option maxHeartbeats 40000000 in
theorem do92_c (x:In) (r0 r1 r2 r3 r4 r5 r6 r7 pc:Int) (w:World) (ho:x.op=3∨x.op=11∨x.op=12∨x.op=14∨x.op=15∨x.op=16) (hU:∀ n ∈ [r0,r1,r2,r3,r4,r5,r6,r7],isU n):Walk92 x [r0,r1,r2,r3,r4,r5,r6,r7] pc w:=by
 have hru:∀ n,isU (rg [r0,r1,r2,r3,r4,r5,r6,r7] n):=by
  intro n
  unfold rg
  rw[List.getD_eq_getElem?_getD]
  cases h:[r0,r1,r2,r3,r4,r5,r6,r7][(n % 8).toNat]? with
  | none=>simp[isU]
  | some v=>exact hU _ (List.mem_of_getElem? h)
 refine zj03 (keep:=K92) (nt:=197) (svs:=[.agg (In.sv x),.agg [.val (.int .u64 r0),.val (.int .u64 r1),.val (.int .u64 r2),.val (.int .u64 r3),.val (.int .u64 r4),.val (.int .u64 r5),.val (.int .u64 r6),.val (.int .u64 r7)],.val (.int .i64 pc)]) Tryz.func92 x92 n92 (by simp) (by simp[IsL,Is,In.sv,In.val,In.cells,uV]) fun R hR=>?_
 (refine Y_go 600 ?_; dsimp only[go_sem,In.sv,reduceAdd,Nat.reduceBEq])
 intro g1 g2 g3
 refine zj2w 1 (xs:=[.int .u64 r0,.int .u64 r1,.int .u64 r2,.int .u64 r3,.int .u64 r4,.int .u64 r5,.int .u64 r6,.int .u64 r7]) rfl rfl ?_
 dsimp only[setn]
 have fin:∀ (e:Ef) F H,doB x [r0,r1,r2,r3,r4,r5,r6,r7] pc=e→denR H F [RV.cell 6 5 true]=some [Ef.val e]→RetG (cxOf Tryz.prog Tryz.f92 K92 T92 R) ⟨w,w.heap.size,[],197,[]⟩ { F:=F,H:=H }:=by
  intro e F H he hd
  refine ret_rv (vs:=[Ef.val e]) r92 rfl hd fun W hW=>hR _ _ ⟨by rw[he]; rfl,hW.fresh'⟩
 refine zj01 (vs:=[.int .i64 x.op]) rfl (fun W hW=>zj33 x.op W) fun v ⟨wd,hv⟩=>⟨.tup [.agg [.val (.string wd),.bt,.bt,.bf,.val (.bool (hasL x.op 73))],.bt],by rw[hv,show isOp x.op=true by rcases ho with h | h | h | h | h | h <;> rw[h] <;> rfl,show hasV x.op wd=.agg #[.string wd,.bool true,.bool true,.bool false,.bool (hasL x.op 73)] by rcases ho with h | h | h | h | h | h <;> rw[h] <;> rfl]; simp[Is,IsL],?_⟩
 (refine Y_go 600 ?_; dsimp only[go_sem,Nat.reduceBEq,reduceAdd])
 intro g4
 cases hl:legalB x with
 | false =>
  refine zj01 (vs:=[In.val x]) rfl (fun W hW=>zj17 x W) fun v hv=>⟨.bf,by rw[hv,hl]; simp[Is],?_⟩
  (refine Y_go 600 ?_; dsimp only[go_sem,Nat.reduceBEq,reduceAdd])
  exact fin Ef.zero _ _ (by simp[doB,hl]) rfl
 | true =>
  refine zj01 (vs:=[In.val x]) rfl (fun W hW=>zj17 x W) fun v hv=>⟨.bt,by rw[hv,hl]; simp[Is],?_⟩
  have hll:=hl
  simp only[legalB,Bool.and_eq_true] at hll
  obtain⟨⟨⟨_,hla⟩,hlb⟩,hlc⟩:=hll
  have ua:=hru x.a; have ub:=hru x.b; have uc:=hru x.c
  have hz:¬ (0≤pc∧pc < 1024)→doB x [r0,r1,r2,r3,r4,r5,r6,r7] pc=Ef.zero:=fun h=>by rw[doB,if_neg (fun k=>h k.2)]
  have hd:0≤pc∧pc < 1024→doB x [r0,r1,r2,r3,r4,r5,r6,r7] pc=doE x (rg [r0,r1,r2,r3,r4,r5,r6,r7] x.a) (rg [r0,r1,r2,r3,r4,r5,r6,r7] x.b) (rg [r0,r1,r2,r3,r4,r5,r6,r7] x.c) pc:=fun hp=>by rw[doB,if_pos ⟨hl,hp⟩]
  (refine Y_go 600 ?_; dsimp only[go_sem,Nat.reduceBEq,reduceAdd])
  refine⟨fun h=>fin Ef.zero _ _ (hz (by have:=of_decide_eq_true h; omega)) rfl,fun h=>⟨fun h2=>fin Ef.zero _ _ (hz (by have:=of_decide_eq_true h2; omega)) rfl,fun h2=>?_⟩⟩
  have h:=of_decide_eq_false h
  have h2:=of_decide_eq_false h2
  have hp:0≤pc∧pc < 1024:=by omega
  have hd:=hd hp
  rw[hd] at fin
  have ha:=isRegI (n:=x.a) (by have e:hasL x.op 65=true:=(by rcases ho with h | h | h | h | h | h <;> rw[h] <;> rfl); simp only[e] at hla; simpa using hla)
  have hb:=isRegI (n:=x.b) (by have e:hasL x.op 66=true:=(by rcases ho with h | h | h | h | h | h <;> rw[h] <;> rfl); simp only[e] at hlb; simpa using hlb)
  refine⟨⟨ha.1,ha.2⟩,_,rgAt (r:=[r0,r1,r2,r3,r4,r5,r6,r7]) rfl ha.1 ha.2,⟨hb.1,hb.2⟩,_,rgAt (r:=[r0,r1,r2,r3,r4,r5,r6,r7]) rfl hb.1 hb.2,_,.to rfl (by omega) (by omega),fun g5=>?_⟩
  rcases ho with ho | ho | ho | ho | ho | ho
  all_goals simp only[ho]
  all_goals simp only[Int.reduceBEq,Int.reduceBNe,Int.reduceToNat,Nat.reduceMul,reduceAdd,Int.reduceLT,Int.reduceLE,Int.reduceGT,Int.reduceGE,ge_iff_le,gt_iff_lt,Int.reduceSub,Int.reduceAdd,decide_true,decide_false,Bool.false_eq_true,Bool.true_eq_false,Bool.not_true,Bool.not_false,reduceCtorEq,false_implies,true_implies,forall_const,true_and,and_true]
  ·refine fin (doE x (rg [r0,r1,r2,r3,r4,r5,r6,r7] x.a) (rg [r0,r1,r2,r3,r4,r5,r6,r7] x.b) (rg [r0,r1,r2,r3,r4,r5,r6,r7] x.c) pc) _ _ rfl ?_
   simp only[doE,ho]; rfl
  ·refine⟨_,convU _,_,addU _ _,?_⟩
   refine fin (doE x (rg [r0,r1,r2,r3,r4,r5,r6,r7] x.a) (rg [r0,r1,r2,r3,r4,r5,r6,r7] x.b) (rg [r0,r1,r2,r3,r4,r5,r6,r7] x.c) pc) _ _ rfl ?_
   simp only[doE,ho]; rfl
  ·refine⟨_,.to rfl (by omega) (by omega),_,convU _,_,addU _ _,?_⟩
   refine fin (doE x (rg [r0,r1,r2,r3,r4,r5,r6,r7] x.a) (rg [r0,r1,r2,r3,r4,r5,r6,r7] x.b) (rg [r0,r1,r2,r3,r4,r5,r6,r7] x.c) pc) _ _ rfl ?_
   simp only[doE,ho]; rfl
  ·refine⟨_,.to rfl (by omega) (by omega),?_⟩
   refine⟨fun s=>?_,fun s=>?_⟩
   ·refine⟨fun i1=>?_,fun i1=>⟨fun i2=>?_,fun i2=>?_⟩⟩
    ·have i1:=of_decide_eq_true i1
     exact fin Ef.zero _ _ (by simp only[doE,ho,goE,s]; simp; omega) rfl
    ·have i2:=of_decide_eq_true i2
     exact fin Ef.zero _ _ (by simp only[doE,ho,goE,s]; simp; omega) rfl
    ·have i1:=of_decide_eq_false i1; have i2:=of_decide_eq_false i2
     exact fin ⟨2,x.imm,0,0,0⟩ _ _ (by simp only[doE,ho,goE,s]; simp; omega) rfl
   ·exact fin ⟨2,pc+1,0,0,0⟩ _ _ (by simp only[doE,ho,goE,s]; simp) rfl
  ·refine⟨_,.to rfl (by omega) (by omega),?_⟩
   refine⟨fun s=>?_,fun s=>?_⟩
   ·refine⟨fun i1=>?_,fun i1=>⟨fun i2=>?_,fun i2=>?_⟩⟩
    ·have i1:=of_decide_eq_true i1
     exact fin Ef.zero _ _ (by simp only[doE,ho,goE,s]; simp; omega) rfl
    ·have i2:=of_decide_eq_true i2
     exact fin Ef.zero _ _ (by simp only[doE,ho,goE,s]; simp; omega) rfl
    ·have i1:=of_decide_eq_false i1; have i2:=of_decide_eq_false i2
     exact fin ⟨2,x.imm,0,0,0⟩ _ _ (by simp only[doE,ho,goE,s]; simp; omega) rfl
   ·exact fin ⟨2,pc+1,0,0,0⟩ _ _ (by simp only[doE,ho,goE,s]; simp) rfl
  ·refine⟨_,.to rfl (by omega) (by omega),?_⟩
   refine⟨fun s=>?_,fun s=>?_⟩
   ·refine⟨fun i1=>?_,fun i1=>⟨fun i2=>?_,fun i2=>?_⟩⟩
    ·have i1:=of_decide_eq_true i1
     exact fin Ef.zero _ _ (by simp only[doE,ho,goE,s]; simp; omega) rfl
    ·have i2:=of_decide_eq_true i2
     exact fin Ef.zero _ _ (by simp only[doE,ho,goE,s]; simp; omega) rfl
    ·have i1:=of_decide_eq_false i1; have i2:=of_decide_eq_false i2
     exact fin ⟨2,x.imm,0,0,0⟩ _ _ (by simp only[doE,ho,goE,s]; simp; omega) rfl
   ·exact fin ⟨2,pc+1,0,0,0⟩ _ _ (by simp only[doE,ho,goE,s]; simp) rfl
set_option maxHeartbeats 40000000 in
theorem do92_d (x:In) (r0 r1 r2 r3 r4 r5 r6 r7 pc:Int) (w:World) (ho:x.op=4∨x.op=5∨x.op=6∨x.op=7∨x.op=8∨x.op=9∨x.op=10) (hU:∀ n ∈ [r0,r1,r2,r3,r4,r5,r6,r7],isU n):Walk92 x [r0,r1,r2,r3,r4,r5,r6,r7] pc w:=by
 have hru:∀ n,isU (rg [r0,r1,r2,r3,r4,r5,r6,r7] n):=by
  intro n
  unfold rg
  rw[List.getD_eq_getElem?_getD]
  cases h:[r0,r1,r2,r3,r4,r5,r6,r7][(n % 8).toNat]? with
  | none=>simp[isU]
  | some v=>exact hU _ (List.mem_of_getElem? h)
 refine zj03 (keep:=K92) (nt:=197) (svs:=[.agg (In.sv x),.agg [.val (.int .u64 r0),.val (.int .u64 r1),.val (.int .u64 r2),.val (.int .u64 r3),.val (.int .u64 r4),.val (.int .u64 r5),.val (.int .u64 r6),.val (.int .u64 r7)],.val (.int .i64 pc)]) Tryz.func92 x92 n92 (by simp) (by simp[IsL,Is,In.sv,In.val,In.cells,uV]) fun R hR=>?_
 (refine Y_go 600 ?_; dsimp only[go_sem,In.sv,reduceAdd,Nat.reduceBEq])
 intro g1 g2 g3
 refine zj2w 1 (xs:=[.int .u64 r0,.int .u64 r1,.int .u64 r2,.int .u64 r3,.int .u64 r4,.int .u64 r5,.int .u64 r6,.int .u64 r7]) rfl rfl ?_
 dsimp only[setn]
 have fin:∀ (e:Ef) F H,doB x [r0,r1,r2,r3,r4,r5,r6,r7] pc=e→denR H F [RV.cell 6 5 true]=some [Ef.val e]→RetG (cxOf Tryz.prog Tryz.f92 K92 T92 R) ⟨w,w.heap.size,[],197,[]⟩ { F:=F,H:=H }:=by
  intro e F H he hd
  refine ret_rv (vs:=[Ef.val e]) r92 rfl hd fun W hW=>hR _ _ ⟨by rw[he]; rfl,hW.fresh'⟩
 refine zj01 (vs:=[.int .i64 x.op]) rfl (fun W hW=>zj33 x.op W) fun v ⟨wd,hv⟩=>⟨.tup [.agg [.val (.string wd),.bt,.bt,.bt,.val (.bool (hasL x.op 73))],.bt],by rw[hv,show isOp x.op=true by rcases ho with h | h | h | h | h | h | h <;> rw[h] <;> rfl,show hasV x.op wd=.agg #[.string wd,.bool true,.bool true,.bool true,.bool (hasL x.op 73)] by rcases ho with h | h | h | h | h | h | h <;> rw[h] <;> rfl]; simp[Is,IsL],?_⟩
 (refine Y_go 600 ?_; dsimp only[go_sem,Nat.reduceBEq,reduceAdd])
 intro g4
 cases hl:legalB x with
 | false =>
  refine zj01 (vs:=[In.val x]) rfl (fun W hW=>zj17 x W) fun v hv=>⟨.bf,by rw[hv,hl]; simp[Is],?_⟩
  (refine Y_go 600 ?_; dsimp only[go_sem,Nat.reduceBEq,reduceAdd])
  exact fin Ef.zero _ _ (by simp[doB,hl]) rfl
 | true =>
  refine zj01 (vs:=[In.val x]) rfl (fun W hW=>zj17 x W) fun v hv=>⟨.bt,by rw[hv,hl]; simp[Is],?_⟩
  have hll:=hl
  simp only[legalB,Bool.and_eq_true] at hll
  obtain⟨⟨⟨_,hla⟩,hlb⟩,hlc⟩:=hll
  have ua:=hru x.a; have ub:=hru x.b; have uc:=hru x.c
  have hz:¬ (0≤pc∧pc < 1024)→doB x [r0,r1,r2,r3,r4,r5,r6,r7] pc=Ef.zero:=fun h=>by rw[doB,if_neg (fun k=>h k.2)]
  have hd:0≤pc∧pc < 1024→doB x [r0,r1,r2,r3,r4,r5,r6,r7] pc=doE x (rg [r0,r1,r2,r3,r4,r5,r6,r7] x.a) (rg [r0,r1,r2,r3,r4,r5,r6,r7] x.b) (rg [r0,r1,r2,r3,r4,r5,r6,r7] x.c) pc:=fun hp=>by rw[doB,if_pos ⟨hl,hp⟩]
  (refine Y_go 600 ?_; dsimp only[go_sem,Nat.reduceBEq,reduceAdd])
  refine⟨fun h=>fin Ef.zero _ _ (hz (by have:=of_decide_eq_true h; omega)) rfl,fun h=>⟨fun h2=>fin Ef.zero _ _ (hz (by have:=of_decide_eq_true h2; omega)) rfl,fun h2=>?_⟩⟩
  have h:=of_decide_eq_false h
  have h2:=of_decide_eq_false h2
  have hp:0≤pc∧pc < 1024:=by omega
  have hd:=hd hp
  rw[hd] at fin
  have ha:=isRegI (n:=x.a) (by have e:hasL x.op 65=true:=(by rcases ho with h | h | h | h | h | h | h <;> rw[h] <;> rfl); simp only[e] at hla; simpa using hla)
  have hb:=isRegI (n:=x.b) (by have e:hasL x.op 66=true:=(by rcases ho with h | h | h | h | h | h | h <;> rw[h] <;> rfl); simp only[e] at hlb; simpa using hlb)
  have hc:=isRegI (n:=x.c) (by have e:hasL x.op 67=true:=(by rcases ho with h | h | h | h | h | h | h <;> rw[h] <;> rfl); simp only[e] at hlc; simpa using hlc)
  refine⟨⟨ha.1,ha.2⟩,_,rgAt (r:=[r0,r1,r2,r3,r4,r5,r6,r7]) rfl ha.1 ha.2,⟨hb.1,hb.2⟩,_,rgAt (r:=[r0,r1,r2,r3,r4,r5,r6,r7]) rfl hb.1 hb.2,⟨hc.1,hc.2⟩,_,rgAt (r:=[r0,r1,r2,r3,r4,r5,r6,r7]) rfl hc.1 hc.2,_,.to rfl (by omega) (by omega),fun g5=>?_⟩
  rcases ho with ho | ho | ho | ho | ho | ho | ho
  all_goals simp only[ho]
  all_goals simp only[Int.reduceBEq,Int.reduceBNe,Int.reduceToNat,Nat.reduceMul,reduceAdd,Int.reduceLT,Int.reduceLE,Int.reduceGT,Int.reduceGE,ge_iff_le,gt_iff_lt,Int.reduceSub,Int.reduceAdd,decide_true,decide_false,Bool.false_eq_true,Bool.true_eq_false,Bool.not_true,Bool.not_false,reduceCtorEq,false_implies,true_implies,forall_const,true_and,and_true]
  ·refine⟨_,addU _ _,?_⟩
   refine fin (doE x (rg [r0,r1,r2,r3,r4,r5,r6,r7] x.a) (rg [r0,r1,r2,r3,r4,r5,r6,r7] x.b) (rg [r0,r1,r2,r3,r4,r5,r6,r7] x.c) pc) _ _ rfl ?_
   simp only[doE,ho]; rfl
  ·refine⟨_,subU _ _,?_⟩
   refine fin (doE x (rg [r0,r1,r2,r3,r4,r5,r6,r7] x.a) (rg [r0,r1,r2,r3,r4,r5,r6,r7] x.b) (rg [r0,r1,r2,r3,r4,r5,r6,r7] x.c) pc) _ _ rfl ?_
   simp only[doE,ho]; rfl
  ·refine⟨_,mulU _ _,?_⟩
   refine fin (doE x (rg [r0,r1,r2,r3,r4,r5,r6,r7] x.a) (rg [r0,r1,r2,r3,r4,r5,r6,r7] x.b) (rg [r0,r1,r2,r3,r4,r5,r6,r7] x.c) pc) _ _ rfl ?_
   simp only[doE,ho]; rfl
  ·refine⟨_,andU _ _,?_⟩
   refine fin (doE x (rg [r0,r1,r2,r3,r4,r5,r6,r7] x.a) (rg [r0,r1,r2,r3,r4,r5,r6,r7] x.b) (rg [r0,r1,r2,r3,r4,r5,r6,r7] x.c) pc) _ _ rfl ?_
   simp only[doE,ho]; rfl
  ·refine⟨_,xorU _ _,?_⟩
   refine fin (doE x (rg [r0,r1,r2,r3,r4,r5,r6,r7] x.a) (rg [r0,r1,r2,r3,r4,r5,r6,r7] x.b) (rg [r0,r1,r2,r3,r4,r5,r6,r7] x.c) pc) _ _ rfl ?_
   simp only[doE,ho]; rfl
  ·refine zj01 (vs:=[.int .u64 (rg [r0,r1,r2,r3,r4,r5,r6,r7] x.b),.int .u64 (rg [r0,r1,r2,r3,r4,r5,r6,r7] x.c),.bool true]) rfl (fun W hW=>zj6i _ _ true W ub uc) fun v hv=>⟨.val (.int .u64 (w64 (rg [r0,r1,r2,r3,r4,r5,r6,r7] x.b*2 ^ (rg [r0,r1,r2,r3,r4,r5,r6,r7] x.c % 64).toNat))),by rw[hv]; simp[Is],?_⟩
   (refine Y_go 600 ?_; dsimp only[go_sem,Nat.reduceBEq,reduceAdd])
   refine fin (doE x (rg [r0,r1,r2,r3,r4,r5,r6,r7] x.a) (rg [r0,r1,r2,r3,r4,r5,r6,r7] x.b) (rg [r0,r1,r2,r3,r4,r5,r6,r7] x.c) pc) _ _ rfl ?_
   simp only[doE,ho]; rfl
  ·refine zj01 (vs:=[.int .u64 (rg [r0,r1,r2,r3,r4,r5,r6,r7] x.b),.int .u64 (rg [r0,r1,r2,r3,r4,r5,r6,r7] x.c),.bool false]) rfl (fun W hW=>zj6i _ _ false W ub uc) fun v hv=>⟨.val (.int .u64 (rg [r0,r1,r2,r3,r4,r5,r6,r7] x.b / 2 ^ (rg [r0,r1,r2,r3,r4,r5,r6,r7] x.c % 64).toNat)),by rw[hv]; simp[Is],?_⟩
   (refine Y_go 600 ?_; dsimp only[go_sem,Nat.reduceBEq,reduceAdd])
   refine fin (doE x (rg [r0,r1,r2,r3,r4,r5,r6,r7] x.a) (rg [r0,r1,r2,r3,r4,r5,r6,r7] x.b) (rg [r0,r1,r2,r3,r4,r5,r6,r7] x.c) pc) _ _ rfl ?_
   simp only[doE,ho]; rfl
theorem do92_out (x:In) (r0 r1 r2 r3 r4 r5 r6 r7 pc:Int) (w:World) (ho:isOp x.op=false):Walk92 x [r0,r1,r2,r3,r4,r5,r6,r7] pc w:=by
 refine zj03 (keep:=K92) (nt:=197) (svs:=[.agg (In.sv x),.agg [.val (.int .u64 r0),.val (.int .u64 r1),.val (.int .u64 r2),.val (.int .u64 r3),.val (.int .u64 r4),.val (.int .u64 r5),.val (.int .u64 r6),.val (.int .u64 r7)],.val (.int .i64 pc)]) Tryz.func92 x92 n92 (by simp) (by simp[IsL,Is,In.sv,In.val,In.cells,uV]) fun R hR=>?_
 (refine Y_go 600 ?_; dsimp only[go_sem,In.sv,reduceAdd,Nat.reduceBEq])
 intro g1 g2 g3
 refine zj01 (vs:=[.int .i64 x.op]) rfl (fun W hW=>zj33 x.op W) fun v ⟨wd,hv⟩=>⟨.tup [.agg [.val (.string wd),.val (.bool (hasL x.op 65)),.val (.bool (hasL x.op 66)),.val (.bool (hasL x.op 67)),.val (.bool (hasL x.op 73))],.bf],by rw[hv,ho]; simp[Is,IsL,hasV],?_⟩
 (refine Y_go 600 ?_; dsimp only[go_sem,Nat.reduceBEq,reduceAdd])
 intro g4
 refine ret_rv (vs:=[Ef.val Ef.zero]) r92 rfl rfl fun W hW=>hR _ _ ⟨?_,hW.fresh'⟩
 have e:doB x [r0,r1,r2,r3,r4,r5,r6,r7] pc=Ef.zero:=by simp[doB,legalB,ho]
 rw[e]; rfl
end
theorem do92 (x:In) (r:List Int) (pc:Int) (w:World) (hr:r.length=8) (hU:∀ n ∈ r,isU n):Walk92 x r pc w:=by
 obtain⟨r0,r1,r2,r3,r4,r5,r6,r7,rfl⟩:∃ r0 r1 r2 r3 r4 r5 r6 r7,r=[r0,r1,r2,r3,r4,r5,r6,r7]:=by
  match r,hr with
  | [a,b,c,d,e,f,g,h],_=>exact⟨a,b,c,d,e,f,g,h,rfl⟩
 cases ho:isOp x.op with
 | false=>exact do92_out x _ _ _ _ _ _ _ _ pc w ho
 | true =>
  have h:=zj2r ho
  by_cases h1:x.op=1∨x.op=13∨x.op=17∨x.op=18
  ·exact do92_a x _ _ _ _ _ _ _ _ pc w h1 hU
  ·by_cases h2:x.op=2
   ·exact do92_b x _ _ _ _ _ _ _ _ pc w h2 hU
   ·by_cases h3:x.op=3∨x.op=11∨x.op=12∨x.op=14∨x.op=15∨x.op=16
    ·exact do92_c x _ _ _ _ _ _ _ _ pc w h3 hU
    ·exact do92_d x _ _ _ _ _ _ _ _ pc w (by omega) hU
end Go.Proofs.YtlbiogokpadaoaaGreatDoor
