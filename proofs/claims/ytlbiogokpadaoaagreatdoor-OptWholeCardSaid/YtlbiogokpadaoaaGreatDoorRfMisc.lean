/- The document's lint: what is wrong at a place; which registers are read. -/
import Derived.Test.YtlbiogokpadaoaaGreatDoorRfPlain
import Derived.Test.YtlbiogokpadaoaaGreatDoorRfRd
set_option linter.unusedSimpArgs false
set_option linter.unusedVariables false
set_option linter.unnecessarySimpa false
namespace Go.Proofs.YtlbiogokpadaoaaGreatDoor
open Go Go.Sx Go.Isa Go.Lint
set_option maxRecDepth 100000
def wrongI (x:In) (b:Bool):Int:=if legalB x=true then (if x.op=18∧b=false then 2 else if x.op=17∧b=true then 3 else if x.op=1∧b=true then 4 else 0) else 1
theorem wrong123 (l:List In) (B:Option Addr) (bc i:Nat) (b:Bool) (x:In) (w:World) (hi:l[i]? = some x) (hl:l.length≤1024) (hB:RowAt w B (cellsI l)) (hG:ShAt w) :
  CallsV Tryz.prog 123 [.slice B l.length bc,.int .i64 (i:Int),.int .i64 (bI b)] w fun v w'=>v=.int .i64 (wrongI x b)∧Fresh w w':=by
 have hil:=zj4d hi
 have hxx:l[i]=x:=by rw[List.getElem?_eq_getElem hil] at hi; injection hi
 refine zj03 (keep:=K123) (nt:=42) (svs:=[.val (.slice B l.length bc),.val (.int .i64 (i:Int)),.val (.int .i64 (bI b))]) Tryz.func123 x123 n123 (by simp) (by simp[IsL,Is]) fun R hR=>?_
 have hB0:RowE ⟨w,w.heap.size,[],42,[]⟩ B (cellsI l):=hB.toE (by simp) 42 []
 have cl:∀ k v,k < 5→x.cells[k]? = some v→CellAt ⟨w,w.heap.size,[],42,[]⟩ B (i*5+k) v:=fun k v hk hv=>hB0.cell (by rw[zj0b l hil hk,hxx]; exact hv)
 have hBs:B.isSome=true:=hB0.isSome (j:=i*5) (by rw[zj06]; omega)
 (refine Y_go 600 ?_; dsimp only[go_sem,Nat.reduceAdd,Nat.reduceBEq])
 refine⟨⟨by omega,by omega,hBs⟩,x.op,cl 0 _ (by omega) rfl,x.a,cl 1 _ (by omega) rfl,x.b,cl 2 _ (by omega) rfl,x.c,cl 3 _ (by omega) rfl,x.imm,cl 4 _ (by omega) rfl,fun gx=>?_⟩
 have fin:∀ s (q:Int),wrongI x b=q→denAll s.H s.F [6]=some [.int .i64 q]→RetG (cxOf Tryz.prog Tryz.f123 K123 T123 R) ⟨w,w.heap.size,[],42,[]⟩ s:=fun s q h hd =>
  zj02 (vs:=_) r123 rfl hd fun W' hW'=>hR _ _ ⟨by rw[h]; rfl,hW'.fresh'⟩
 cases hlg:legalB x with
 | false =>
  refine zj01 (vs:=[In.val x]) rfl (fun W hW=>zj17 x W) fun v hv=>⟨.bf,by rw[hv,hlg]; simp[Is],?_⟩
  (refine Y_go 600 ?_; dsimp only[go_sem,Nat.reduceBEq])
  exact fin _ 1 (by simp[wrongI,hlg]) rfl
 | true =>
  refine zj01 (vs:=[In.val x]) rfl (fun W hW=>zj17 x W) fun v hv=>⟨.bt,by rw[hv,hlg]; simp[Is],?_⟩
  (refine Y_go 600 ?_; dsimp only[go_sem,Nat.reduceBEq,Nat.reduceAdd])
  clear cl hB0 hBs hR hB hG
  cases b
  all_goals repeat' (first | (refine⟨fun hA=>?_,fun hB=>?_⟩) | fail)
  all_goals first | (exfalso; clear fin; simp_all [bI]; done) | (exact fin _ 0 (by clear fin; simp_all [wrongI]) rfl) | (exact fin _ 2 (by clear fin; simp_all [wrongI]) rfl) | (exact fin _ 3 (by clear fin; simp_all [wrongI]) rfl) | (exact fin _ 4 (by clear fin; simp_all [wrongI]) rfl) | skip
theorem zj19 {l:List In} {s:Spot}:ReachW l (-1) s ↔ Go.Lint.Reach l s:=by
 constructor
 ·intro h
  induction h with
  | start=>exact .start
  | step s n x _ hx _ hn ih =>
   unfold gO at hn
   split at hn
   ·exact .step s n x ih hx (by assumption) hn
   ·simp at hn
 ·intro h
  induction h with
  | start=>exact .start
  | step s n x _ hx hlg hn ih=>exact .step s n x ih hx (by simp[stopB]) (by unfold gO; rw[if_pos hlg]; exact hn)
theorem zj4v {a:Int} (h0:0≤a) (h1:a < 8) (r:Nat) (hr:r < 8):(bit a).getLsbD r=decide (a=r):=by
 unfold bit
 obtain⟨k,rfl⟩:=Int.eq_ofNat_of_zero_le h0
 have hk:k < 8:=by omega
 have:∀ k,k < 8→∀ r,r < 8→(1#8 <<< k).getLsbD r=decide (k=r):=by decide
 have:=this k hk r hr
 simp only[Int.toNat_natCast]
 rw[this]
 simp
 omega
theorem setsB_bit {x:In} (hx:legalB x=true) (r:Nat) (hr:r < 8):(setsB x).getLsbD r=false ↔ setsI x ≠ r:=by
 obtain⟨ha,_,_⟩:=zj1n hx
 unfold setsB setsI
 by_cases h:2≤x.op∧x.op≤11
 ·rw[if_pos h,if_pos h]
  have:=ha (.inl ⟨h.1,by omega⟩)
  rw[zj4v this.1 this.2 r hr]
  simp
 ·rw[if_neg h,if_neg h]
  simp
theorem zj4e {x:In} (hx:legalB x=true) (r:Nat) (hr:r < 8):(readsB x).getLsbD r=true ↔ (r:Int) ∈ readsL x:=by
 obtain⟨ha,hb,hc⟩:=zj1n hx
 unfold readsB readsL
 by_cases h1:x.op=3∨x.op=11
 ·rw[if_pos h1,if_pos h1]
  have b:=hb (.inl (by omega))
  rw[zj4v b.1 b.2 r hr]
  simp; omega
 ·rw[if_neg h1,if_neg h1]
  by_cases h2:4≤x.op∧x.op≤10
  ·rw[if_pos h2,if_pos h2]
   have b:=hb (.inl (by omega))
   have c:=hc h2
   rw[BitVec.getLsbD_or,zj4v b.1 b.2 r hr,zj4v c.1 c.2 r hr]
   simp; omega
  ·rw[if_neg h2,if_neg h2]
   by_cases h3:x.op=12∨(14≤x.op∧x.op≤16)
   ·rw[if_pos h3,if_pos h3]
    have a:=ha (by omega)
    have b:=hb (by omega)
    rw[BitVec.getLsbD_or,zj4v a.1 a.2 r hr,zj4v b.1 b.2 r hr]
    simp; omega
   ·rw[if_neg h3,if_neg h3]; simp
theorem zj4w {x:In} (hx:legalB x=true) (r:Nat) (hr:r < 8):stopB r x=false ↔ (setsB x).getLsbD r=false:=by
 rw[setsB_bit hx r hr]
 unfold stopB
 simp
theorem zj1y {l:List In} {r:Nat} (hr:r < 8) {s:Spot}:ReachW l r s ↔ Unset l r s:=by
 constructor
 ·intro h
  induction h with
  | start=>exact .start
  | step s n x _ hx hst hn ih =>
   unfold gO at hn
   split at hn
   ·rename_i hlg
    exact .step s n x ih hx hlg ((zj4w hlg r hr).1 hst) hn
   ·simp at hn
 ·intro h
  induction h with
  | start=>exact .start
  | step s n x _ hx hlg hst hn ih=>exact .step s n x ih hx ((zj4w hlg r hr).2 hst) (by unfold gO; rw[if_pos hlg]; exact hn)
def TellB (l:List In) (x:In) (i:Nat) (n:Int):Prop :=
 (n=8∧¬ ReachW l (-1) ((i:Int),false)∧¬ ReachW l (-1) ((i:Int),true)) ∨
 (n=7∧legalB x=true∧∃ r:Nat,r < 8∧(r:Int) ∈ readsL x∧(ReachW l r ((i:Int),false)∨ReachW l r ((i:Int),true))) ∨
 ∃ b,ReachW l (-1) ((i:Int),b)∧((wrongI x b=n)∨(n=5∧∃ z ∈ gO x ((i:Int),b),z.2=true∧(l.length:Int)≤z.1)∨(n=6∧wrongI x b ≠ 1∧13≤x.op∧x.op≤16∧(x.imm < 0∨1024 < x.imm)))
theorem zj7u {x:In} {b:Bool} {p n:Int} (hn:1≤n):wrongI x b=n ↔ (n=1∧legalB x=false)∨(legalB x=true∧n ≠ 6∧n ∈ fnd x (p,b)):=by
 unfold wrongI fnd
 cases hlg:legalB x
 ·simp; omega
 ·simp only[if_true]
  by_cases h1:x.op=18
  ·cases b <;> simp[h1] <;> omega
  ·by_cases h2:x.op=17
   ·cases b <;> simp[h2] <;> omega
   ·by_cases h3:x.op=1
    ·cases b <;> simp[h3] <;> omega
    ·by_cases h4:13≤x.op∧x.op≤16∧(x.imm < 0∨1024 < x.imm)
     ·simp[h1,h2,h3,h4]; omega
     ·simp[h1,h2,h3,h4]; omega
theorem wrong_ne1 {x:In} {b:Bool}:wrongI x b ≠ 1 ↔ legalB x=true:=by
 unfold wrongI
 cases legalB x
 ·simp
 ·simp only[if_true]
  constructor
  ·exact fun _=>trivial
  ·intro _
   split
   ·decide
   ·split
    ·decide
    ·split <;> decide
theorem six_fnd {x:In} {b:Bool} {p:Int}:6 ∈ fnd x (p,b) ↔ 13≤x.op∧x.op≤16∧(x.imm < 0∨1024 < x.imm):=by
 unfold fnd
 by_cases h1:x.op=1
 ·cases b <;> simp[h1]
 ·by_cases h2:x.op=17
  ·cases b <;> simp[h2]
  ·by_cases h3:x.op=18
   ·cases b <;> simp[h3]
   ·by_cases h4:13≤x.op∧x.op≤16∧(x.imm < 0∨1024 < x.imm)
    ·simp only[h1,h2,h3,h4,false_and,if_false,or_self,and_self,if_true,List.mem_singleton]
    ·simp only[h1,h2,h3,h4,false_and,if_false,or_self,List.not_mem_nil]
theorem tell_bad {l:List In} (hl:l.length≤1024) {x:In} {i:Nat} (hx:l[i]? = some x) {n:Int} (hn:1≤n):TellB l x i n ↔ BadP l n (i:Int):=by
 have hil:=zj4d hx
 have hi1:((i:Nat):Int).toNat=i:=by omega
 unfold TellB BadP
 constructor
 ·rintro (⟨rfl,h1,h2⟩ | ⟨rfl,hlg,r,hr,hm,h⟩ | ⟨b,hb,h⟩)
  ·exact .inr (.inr ⟨rfl,by omega,by omega,fun h=>h1 (zj19.2 h),fun h=>h2 (zj19.2 h)⟩)
  ·refine .inr (.inl ⟨rfl,x,by omega,by rw[hi1]; exact hx,hlg,?_⟩)
   rcases h with h | h
   ·exact⟨r,false,hr,(zj4e hlg r hr).2 hm,(zj1y hr).1 h⟩
   ·exact⟨r,true,hr,(zj4e hlg r hr).2 hm,(zj1y hr).1 h⟩
  ·refine .inl ⟨((i:Int),b),x,zj19.1 hb,rfl,by show l[((i:Nat):Int).toNat]? = _; rw[hi1]; exact hx,?_⟩
   rcases h with h | ⟨rfl,z,hz,hz1,hz2⟩ | ⟨rfl,h1,h2,h3,h4⟩
   ·rcases (zj7u (p:=(i:Int)) hn).1 h with⟨h1,h2⟩ | ⟨hlg,_,h2⟩
    ·exact .inl ⟨h1,h2⟩
    ·exact .inr ⟨hlg,.inl h2⟩
   ·unfold gO at hz
    split at hz
    ·rename_i hlg; exact .inr ⟨hlg,.inr ⟨rfl,z,hz,hz1,hz2⟩⟩
    ·simp at hz
   ·exact .inr ⟨wrong_ne1.1 h1,.inl (six_fnd.2 ⟨h2,h3,h4⟩)⟩
 ·rintro (⟨s,y,hr,hs,hy,h⟩ | ⟨rfl,y,h0,hy,hlg,r,b,hr,hm,hu⟩ | ⟨rfl,h0,h1,h2,h3⟩)
  ·obtain⟨p,b⟩:=s
   simp only at hs hy
   subst hs
   rw[hi1,hx] at hy
   injection hy with hy
   subst hy
   refine .inr (.inr ⟨b,zj19.2 hr,?_⟩)
   rcases h with⟨rfl,h⟩ | ⟨hlg,h | ⟨rfl,z,hz,hz1,hz2⟩⟩
   ·exact .inl ((zj7u (p:=(i:Int)) hn).2 (.inl ⟨rfl,h⟩))
   ·by_cases h6:n=6
    ·subst h6
     have:=six_fnd.1 h
     exact .inr (.inr ⟨rfl,wrong_ne1.2 hlg,this⟩)
    ·exact .inl ((zj7u (p:=(i:Int)) hn).2 (.inr ⟨hlg,h6,h⟩))
   ·exact .inr (.inl ⟨rfl,z,by unfold gO; rw[if_pos hlg]; exact hz,hz1,hz2⟩)
  ·rw[hi1,hx] at hy
   injection hy with hy
   subst hy
   refine .inr (.inl ⟨rfl,hlg,r,hr,(zj4e hlg r hr).1 hm,?_⟩)
   cases b
   ·exact .inl ((zj1y hr).2 hu)
   ·exact .inr ((zj1y hr).2 hu)
  ·exact .inl ⟨rfl,fun h=>h2 (zj19.1 h),fun h=>h3 (zj19.1 h)⟩
def ansN (o:List Bool) (n:Nat):Nat→List (Int × Int)
 | 0=>[]
 | i+1=>ansN o n i++(if o.getD (i*9+n) false=true then [((n:Int),(i:Int))] else [])
def ans (o:List Bool) (len:Nat):Nat→List (Int × Int)
 | 0=>[]
 | n+1=>ans o len n++ansN o (n+1) len
theorem zj5v {o:List Bool} {n:Nat} {c p:Int}:∀ i,(c,p) ∈ ansN o n i ↔ c=n∧∃ k,k < i∧p=(k:Int)∧o.getD (k*9+n) false=true
 | 0=>by simp[ansN]
 | i+1=>by
  simp only[ansN,List.mem_append,zj5v i]
  constructor
  ·rintro (⟨h1,k,h2,h3,h4⟩ | h)
   ·exact⟨h1,k,by omega,h3,h4⟩
   ·split at h
    ·rename_i h'
     simp at h
     exact⟨h.1,i,by omega,h.2,h'⟩
    ·simp at h
  ·rintro ⟨h1,k,h2,h3,h4⟩
   by_cases e:k=i
   ·subst e
    right; rw[if_pos h4,h1,h3]; simp
   ·exact .inl ⟨h1,k,by omega,h3,h4⟩
theorem up_ansN (o:List Bool) (n:Nat):∀ i,(ansN o n i).Pairwise lt2
 | 0=>by simp[ansN]
 | i+1=>by
  rw[ansN,List.pairwise_append]
  refine⟨up_ansN o n i,by split <;> simp,fun a ha b hb=>?_⟩
  obtain⟨a1,a2⟩:=a
  obtain⟨h1,k,h2,h3,_⟩:=(zj5v i).1 ha
  split at hb
  ·simp at hb; subst hb; right; exact⟨h1,by show a2 < _; omega⟩
  ·simp at hb
theorem mem_ans {o:List Bool} {len:Nat} {c p:Int}:∀ n,(c,p) ∈ ans o len n ↔ ∃ m:Nat,1≤m∧m≤n∧c=m∧∃ k,k < len∧p=(k:Int)∧o.getD (k*9+m) false=true
 | 0=>by simp[ans]; omega
 | n+1=>by
  simp only[ans,List.mem_append,mem_ans n,zj5v]
  constructor
  ·rintro (⟨m,h1,h2,h3,h4⟩ | ⟨h1,h2⟩)
   ·exact⟨m,h1,by omega,h3,h4⟩
   ·exact⟨n+1,by omega,Nat.le_refl _,h1,h2⟩
  ·rintro ⟨m,h1,h2,h3,h4⟩
   by_cases e:m=n+1
   ·subst e; exact .inr ⟨h3,h4⟩
   ·exact .inl ⟨m,h1,by omega,h3,h4⟩
theorem up_ans (o:List Bool) (len:Nat):∀ n,(ans o len n).Pairwise lt2
 | 0=>by simp[ans]
 | n+1=>by
  rw[ans,List.pairwise_append]
  refine⟨up_ans o len n,up_ansN o (n+1) len,fun a ha b hb=>?_⟩
  obtain⟨a1,a2⟩:=a
  obtain⟨b1,b2⟩:=b
  obtain⟨m,_,h2,h3,_⟩:=(mem_ans n).1 ha
  obtain⟨h1,_⟩:=(zj5v len).1 hb
  left; show a1 < b1; omega
theorem ans_ok {l:List In} (hl:l.length≤1024) {o:List Bool} (h:∀ i x,l[i]? = some x→∀ n:Nat,1≤n→n≤8→(o.getD (i*9+n) false=true ↔ TellB l x i n)):FoundOk l (ans o l.length 8):=by
 refine⟨fun c p=>?_,up_ans _ _ _⟩
 rw[mem_ans]
 constructor
 ·rintro ⟨m,h1,h2,rfl,k,hk,rfl,ho⟩
  have hx:l[k]? = some l[k]:=List.getElem?_eq_getElem hk
  exact (tell_bad hl hx (by omega)).1 ((h k _ hx m h1 h2).1 ho)
 ·intro hb
  obtain⟨h0,h1,x,hx,hc⟩:=zj7r hl hb
  have hc8:1≤c∧c≤8:=by omega
  have hp:((p.toNat:Nat):Int)=p:=by omega
  have hcn:((c.toNat:Nat):Int)=c:=by omega
  refine⟨c.toNat,by omega,by omega,hcn.symm,p.toNat,by omega,hp.symm,?_⟩
  refine (h p.toNat x hx c.toNat (by omega) (by omega)).2 ((tell_bad hl hx (by omega)).2 ?_)
  rw[hcn,hp]; exact hb
end Go.Proofs.YtlbiogokpadaoaaGreatDoor
