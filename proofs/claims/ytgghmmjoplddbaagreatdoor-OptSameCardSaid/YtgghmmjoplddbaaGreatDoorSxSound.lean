/- The engine, part 3: the operations are what 'xk' says. -/
import Derived.Test.YtgghmmjoplddbaaGreatDoorSxOps
set_option linter.unusedSimpArgs false
set_option linter.unusedVariables false
set_option linter.unnecessarySimpa false
namespace Go.Sx
def Ran (P:Program) (o:Oper) (a:Act) (W:World) (v:Value) (W':World):Prop :=
 (execOp a.eval o).run P W=.ok (.value v) W'∨((execOp a.eval o).run P W=.ok .skip W'∧v=undef)
def Res (E:Env) (P:Program) (s:SS) (K:SV→List SO→Prop) (o:Oper) (a:Act) (W:World):Prop :=
 ∃ v W' sv H',Ran P o a W v W'∧K sv H'∧Is H' sv v∧HExt s.H H'∧HeapOk E H' W'
section
variable {E:Env} {P:Program} {s:SS} {K:SV→List SO→Prop} {o:Oper} {a:Act} {W:World}
def ResP (P:Program) (s:SS) (K:SV→List SO→Prop) (o:Oper) (a:Act):Prop :=
 ∃ v sv,(∀ W2:World,(execOp a.eval o).run P W2=.ok (.value v) W2)∧K sv s.H∧Is s.H sv v
theorem ResP.mk {v:Value} {sv:SV} (hr:∀ W2:World,(execOp a.eval o).run P W2=.ok (.value v) W2) (hk:K sv s.H) (hi:Is s.H sv v):ResP P s K o a:=⟨v,sv,hr,hk,hi⟩
def ResR (P:Program) (s:SS) (K:SV→List SO→Prop) (o:Oper) (a:Act) (W:World):Prop :=
 ∃ v sv,(∀ W2,Grow W W2→(execOp a.eval o).run P W2=.ok (.value v) W2)∧K sv s.H∧Is s.H sv v
theorem ev_int (rep:Rep E s a W) {x:Operand} {k:IntKind} {n:Int} (h:ev s.F x=.val (.int k n)):a.eval x=.int k n:=by
 have:=rep.ev x; rw[h] at this; simpa [Is] using this
theorem ev_val (rep:Rep E s a W) {x:Operand} {v:Value} (h:ev s.F x=.val v):a.eval x=v:=by
 have:=rep.ev x; rw[h] at this; simpa [Is] using this
theorem zj1q {H:List SO} {i ver:Nat} {C:TypeId→Nat→Option Addr→Nat→Nat→List Value→Prop} (h:cur H i ver C) :
  ∃ t sz A n c xs,nth H i=some (.own t ver sz A n c xs)∧C t sz A n c xs:=by
 unfold cur at h
 split at h
 ·rename_i t ver' sz A n c xs hn
  split at h
  ·rename_i hb
   obtain rfl:ver'=ver:=by simpa using hb
   exact⟨t,sz,A,n,c,xs,hn,h⟩
  ·exact h.elim
 ·exact h.elim
theorem s_mov {x:Operand} (ho:o.op=.move x∨o.op=.assign x) (rep:Rep E s a W) (h:xk E s K (.mov x)):ResP P s K o a:=by
 simp only[xk] at h
 refine ResP.mk (v:=a.eval x) ?_ h (rep.ev x)
 rcases ho with ho | ho <;> simp[execOp,ho]
theorem s_pick {c x y:Operand} (ho:o.op=.pick c x y) (rep:Rep E s a W) (h:xk E s K (.pick c x y)):ResP P s K o a:=by
 have key:∀ b,a.eval c=.bool b→∀ W2:World,(execOp a.eval o).run P W2=.ok (.value (if b then a.eval x else a.eval y)) W2:=by
  intro b hb; cases b <;> simp[execOp,ho,hb,asBool]
 have hc:=rep.ev c
 simp only[xk] at h
 split at h
 ·rename_i e; rw[e] at hc; simp only[Is] at hc; exact ResP.mk (key _ hc) h (rep.ev x)
 ·rename_i e; rw[e] at hc; simp only[Is] at hc; exact ResP.mk (key _ hc) h (rep.ev y)
 ·rename_i b e
  rw[e] at hc; simp only[Is] at hc
  cases b
  ·exact ResP.mk (key _ hc) (h.2 rfl) (rep.ev y)
  ·exact ResP.mk (key _ hc) (h.1 rfl) (rep.ev x)
 ·exact h.elim
theorem s_arith {op:BinOp} {k:IntKind} {t t':TypeId} {x y:Operand} (ho:o.op=.binOp op t x y t') (rep:Rep E s a W) (h:xk E s K (.arith op k x y)):ResP P s K o a:=by
 simp only[xk] at h
 split at h
 case h_2=>exact h.elim
 rename_i _ _ j n i m hx hy
 split at h
 case h_2=>exact h.elim
 rename_i _ _ h1 h2
 obtain rfl:=kEq_eq h1; obtain rfl:=kEq_eq h2
 obtain⟨r,hr,hk⟩:=h
 have ex:=ev_int rep hx; have ey:=ev_int rep hy
 refine ResP.mk (v:=.int i r) ?_ hk (by simp[Is])
 cases op <;> simp only[ArOk] at hr <;> (try exact hr.elim) <;> subst hr <;> simp only[execOp,ho,ex,ey,eqGuard_add,eqGuard_sub,eqGuard_mul,binOp_add,binOp_sub,binOp_mul,Op.intArith,Sem.run_bind,Sem.run_pure,Result.andThen_ok,implies_true]
theorem s_div {op:BinOp} {k:IntKind} {t t':TypeId} {x y:Operand} (ho:o.op=.binOp op t x y t') (rep:Rep E s a W) (h:xk E s K (.div op k x y)):ResP P s K o a:=by
 simp only[xk] at h
 split at h
 case h_2=>exact h.elim
 rename_i _ _ j n i m hx hy
 split at h
 case h_2=>exact h.elim
 rename_i _ _ h1 h2
 obtain rfl:=kEq_eq h1; obtain rfl:=kEq_eq h2
 obtain⟨r,⟨hb,hr⟩,hk⟩:=h
 have ex:=ev_int rep hx; have ey:=ev_int rep hy
 refine ResP.mk (v:=.int i r) ?_ hk (by simp[Is])
 cases op <;> simp only at hr <;> (try exact hr.elim) <;> subst hr <;> simp only[execOp,ho,ex,ey,eqGuard_quo,eqGuard_rem,binOp_quo,binOp_rem,Op.intDiv,hb,if_false,Sem.run_bind,Sem.run_pure,Result.andThen_ok,implies_true]
theorem s_bits {op:BinOp} {k:IntKind} {t t':TypeId} {x y:Operand} (ho:o.op=.binOp op t x y t') (rep:Rep E s a W) (h:xk E s K (.bits op k x y)):ResP P s K o a:=by
 simp only[xk] at h
 split at h
 case h_2=>exact h.elim
 rename_i _ _ j n i m hx hy
 split at h
 case h_2=>exact h.elim
 rename_i _ _ h1 h2
 obtain rfl:=kEq_eq h1; obtain rfl:=kEq_eq h2
 obtain⟨r,hr,hk⟩:=h
 have ex:=ev_int rep hx; have ey:=ev_int rep hy
 refine ResP.mk (v:=.int i r) ?_ hk (by simp[Is])
 cases op <;> simp only[BitOk] at hr <;> (try exact hr.elim) <;> subst hr <;>
  simp only[execOp,ho,ex,ey,eqGuard_and,eqGuard_or,eqGuard_xor,eqGuard_andNot,binOp_and,binOp_or,binOp_xor,binOp_andNot,Op.intBits,Sem.run_bind,Sem.run_pure,Result.andThen_ok,implies_true]
theorem s_shift {op:BinOp} {k:IntKind} {t t':TypeId} {x y:Operand} (ho:o.op=.binOp op t x y t') (rep:Rep E s a W) (h:xk E s K (.shift op k x y)):ResP P s K o a:=by
 simp only[xk] at h
 split at h
 case h_2=>exact h.elim
 rename_i _ _ j n i m hx hy
 split at h
 case h_2=>exact h.elim
 rename_i _ h1
 obtain rfl:=kEq_eq h1
 obtain⟨r,⟨hb,hr⟩,hk⟩:=h
 have ex:=ev_int rep hx; have ey:=ev_int rep hy
 have hb':¬ m < 0:=by omega
 refine ResP.mk (v:=.int j r) ?_ hk (by simp[Is])
 cases op <;> simp only at hr <;> (try exact hr.elim) <;> subst hr <;>
  simp only[execOp,ho,ex,ey,eqGuard_shl,eqGuard_shr,binOp_shl,binOp_shr,Op.shift,hb',if_false,Sem.run_bind,Sem.run_pure,Result.andThen_ok,implies_true]
theorem s_cmp {op:BinOp} {k:IntKind} {t t':TypeId} {x y:Operand} (hop:zj5o op=true) (ho:o.op=.binOp op t x y t') (rep:Rep E s a W) (h:xk E s K (.cmp op k x y)):ResP P s K o a:=by
 simp only[xk] at h
 split at h
 case h_2=>exact h.elim
 rename_i _ _ j n i m hx hy
 split at h
 case h_2=>exact h.elim
 rename_i _ _ h1 h2
 obtain rfl:=kEq_eq h1; obtain rfl:=kEq_eq h2
 have ex:=ev_int rep hx; have ey:=ev_int rep hy
 refine ResP.mk (v:=.bool (cmpB op n m)) ?_ h (by simp[Is])
 cases op <;> simp only[zj5o] at hop <;> (try cases hop) <;>
  simp only[execOp,ho,ex,ey,eqGuard_at_int,eqGuard_lss,eqGuard_leq,eqGuard_gtr,eqGuard_geq,binOp_eql,binOp_neq,binOp_lss,binOp_leq,binOp_gtr,binOp_geq,cmpB,Sem.run_bind,Sem.run_pure,Result.andThen_ok,implies_true]
theorem s_eqs {op:BinOp} {t t':TypeId} {x y:Operand} (hop:zj5o op=true) (ho:o.op=.binOp op t x y t') (rep:Rep E s a W) (h:xk E s K (.eqs op x y)):ResP P s K o a:=by
 simp only[xk] at h
 split at h
 case h_2=>exact h.elim
 rename_i _ _ b c hx hy
 have ex:=ev_val rep hx; have ey:=ev_val rep hy
 refine ResP.mk (v:=.bool (strB op b c)) ?_ h (by simp[Is])
 cases op <;> simp only[zj5o] at hop <;> (try cases hop) <;>
  simp[execOp,ho,ex,ey,eqGuard_at_string,eqGuard_lss,eqGuard_leq,eqGuard_gtr,eqGuard_geq,binOp,Op.stringOp,strB]
theorem s_not {t:TypeId} {x:Operand} (ho:o.op=.unOp .not t x) (rep:Rep E s a W) (h:xk E s K (.not x)):ResP P s K o a:=by
 have hc:=rep.ev x
 simp only[xk] at h
 split at h
 ·rename_i e; rw[e] at hc; simp only[Is] at hc
  exact ResP.mk (v:=.bool false) (by simp[execOp,ho,hc,Op.unary]) h (by simp[Is])
 ·rename_i e; rw[e] at hc; simp only[Is] at hc
  exact ResP.mk (v:=.bool true) (by simp[execOp,ho,hc,Op.unary]) h (by simp[Is])
 ·rename_i b e; rw[e] at hc; simp only[Is] at hc
  exact ResP.mk (v:=.bool (!b)) (by simp[execOp,ho,hc,Op.unary]) h (by simp[Is])
 ·exact h.elim
theorem s_conv {src dst:TypeId} {k j:IntKind} {x:Operand} (hs:P.underlying src=some (.int j)) (ht:P.underlying dst=some (.int k)) (ho:o.op=.convert src dst x) (rep:Rep E s a W) (h:xk E s K (.conv k x)):ResP P s K o a:=by
 simp only[xk] at h
 split at h
 case h_2=>exact h.elim
 rename_i _ i n hx
 have ex:=ev_int rep hx
 obtain⟨r,hr,hk⟩:=h
 refine ResP.mk (v:=.int k r) ?_ hk (by simp[Is])
 simp only[ConvOk] at hr; subst hr
 simp[execOp,ho,ex,convert,run_underlying hs,run_underlying ht,Conv.intToInt]
theorem s_lenS {t e:TypeId} {x:Operand} (ht:P.underlying t=some (.slice e)) (ho:o.op=.call { callee:=.builtin .len,args:=#[x],argTypes:=#[t] }) (rep:Rep E s a W) (h:xk E s K (.lenS x)):ResP P s K o a:=by
 have key:∀ A n c,a.eval x=.slice A n c→∀ W2:World,(execOp a.eval o).run P W2=.ok (.value (.int .i64 n)) W2:=by
  intro A n c hx
  simp[execOp,ho,resolve,invoke,builtin,hx,Builtin.len_,run_underlying ht,goInt]
 have hc:=rep.ev x
 simp only[xk] at h
 split at h
 ·rename_i A n c e; rw[e] at hc; simp only[Is] at hc
  exact ResP.mk (key _ _ _ hc) h (by simp[Is])
 ·rename_i i off n c e; rw[e] at hc; simp only[Is] at hc
  obtain⟨g,_,hv⟩:=hc
  exact ResP.mk (key _ _ _ hv) h (by simp[Is])
 ·rename_i i ver e; rw[e] at hc; simp only[Is] at hc
  obtain⟨t0,ver',sz,A,n,c,xs,hn,_,_,hv⟩:=hc
  obtain⟨t1,sz1,A1,n1,c1,xs1,he,h⟩:=zj1q h
  rw[hn] at he; injection he with he; injection he with e1 e2 e3 e4 e5 e6 e7
  subst e1; subst e2; subst e3; subst e4; subst e5; subst e6; subst e7
  exact ResP.mk (key _ _ _ (hv rfl)) h (by simp[Is])
 ·exact h.elim
theorem s_lenT {t:TypeId} {x:Operand} (ht:P.underlying t=some .string) (ho:o.op=.call { callee:=.builtin .len,args:=#[x],argTypes:=#[t] }) (rep:Rep E s a W) (h:xk E s K (.lenT x)):ResP P s K o a:=by
 simp only[xk] at h
 split at h
 case h_2=>exact h.elim
 rename_i _ b hx
 have ex:=ev_val rep hx
 refine ResP.mk (v:=.int .i64 b.size) ?_ h (by simp[Is])
 simp[execOp,ho,resolve,invoke,builtin,ex,Builtin.len_,run_underlying ht,goInt]
theorem add_lit (g o n:Nat):(⟨g,o,none⟩:Addr).add n=⟨g,o+n,none⟩:=by
 unfold Addr.add; split
 ·rename_i h; subst h; rfl
 ·rfl
theorem add_add (A:Addr) (i j:Nat):(A.add i).add j=A.add (i+j):=by
 unfold Addr.add
 by_cases hi:i=0 <;> by_cases hj:j=0 <;> simp[hi,hj,Nat.add_assoc]
theorem zj0d {t:TypeId} {n:Nat} (h:szT P t=some n) (W:World):(sizeOf t).run P W=.ok n W:=by
 unfold szT at h
 cases hi:P.info? t with
 | none=>simp[hi] at h
 | some i=>simp[hi] at h; simp[sizeOf,typeInfo,hi,h]
theorem s_idx {t e:TypeId} {sz:Nat} {x i:Operand} (ht:P.underlying t=some (.slice e)) (hz:szT P e=some sz) (ho:o.op=.indexAddr t x i) (rep:Rep E s a W) (h:xk E s K (.idx sz x i)):ResP P s K o a:=by
 have key:∀ A n c k j,a.eval x=.slice (some A) n c→a.eval i=.int k j→0≤j→j < (n:Int)→∀ W2:World,(execOp a.eval o).run P W2=.ok (.value (.pointer (some (A.add (j.toNat*sz))))) W2:=by
  intro A n c k j hx hi h0 h1
  simp[execOp,ho,Instr.indexAt,hx,hi,asIntOf,run_underlying ht,zj0d hz,h0,h1]
 have hx:=rep.ev x
 simp only[xk] at h
 split at h
 ·rename_i A n c k j e1 e2
  rw[e1] at hx; simp only[Is] at hx
  obtain⟨⟨h0,h1,hA⟩,hk⟩:=h
  obtain⟨A',rfl⟩:=Option.isSome_iff_exists.1 hA
  exact ResP.mk (key _ _ _ _ _ hx (ev_int rep e2) h0 h1) hk (by simp[Is])
 ·rename_i en off n c k j e1 e2
  rw[e1] at hx; simp only[Is] at hx
  obtain⟨g,hg,hv⟩:=hx
  obtain⟨⟨h0,h1⟩,hk⟩:=h
  refine ResP.mk (key _ _ _ _ _ hv (ev_int rep e2) h0 h1) hk ?_
  simp only[Is]
  exact⟨g,hg,by rw[add_lit]⟩
 ·rename_i en ver k j e1 e2
  rw[e1] at hx; simp only[Is] at hx
  obtain⟨t0,ver',sz0,A,n,c,xs,hn,hle,_,hv⟩:=hx
  obtain⟨t1,sz1,A1,n1,c1,xs1,he,⟨h0,h1⟩,hk⟩:=zj1q h
  rw[hn] at he; injection he with he; injection he with e1 e2 e3 e4 e5 e6 e7
  subst e1; subst e2; subst e3; subst e4; subst e5; subst e6; subst e7
  have hok:=rep.heap.ents en _ hn
  have hA:∃ A',A=some A':=by
   rcases hok.2 with⟨e0,_,_⟩ | ⟨g,b,cur,e0,_⟩
   ·omega
   ·exact⟨_,e0⟩
  obtain⟨A',rfl⟩:=hA
  refine ResP.mk (key _ _ _ _ _ (hv rfl) (ev_int rep ‹_›) h0 h1) hk ?_
  simp only[Is]
  exact⟨_,_,_,_,_,_,_,hn,hle,⟨_,rfl⟩,fun _=>⟨_,rfl,rfl⟩⟩
 ·exact h.elim
theorem s_idxA {t e:TypeId} {n sz:Nat} {x i:Operand} (hn:1 < n) (ht:P.underlying t=some (.array n e)) (hz:szT P e=some sz) (ho:o.op=.indexAddr t x i) (rep:Rep E s a W) (h:xk E s K (.idxA n sz x i)):ResP P s K o a:=by
 have hn1:¬ n≤1:=by omega
 have key:∀ A k j,a.eval x=.pointer (some A)→a.eval i=.int k j→0≤j→j < (n:Int)→∀ W2:World,(execOp a.eval o).run P W2=.ok (.value (.pointer (some (A.add (j.toNat*sz))))) W2:=by
  intro A k j hx hi h0 h1
  simp[execOp,ho,Instr.indexAt,hx,hi,asIntOf,run_underlying ht,zj0d hz,h0,h1,Instr.sureAddr]
 have hx:=rep.ev x
 simp only[xk] at h
 split at h
 ·rename_i en off k j e1 e2
  rw[e1] at hx; simp only[Is] at hx
  obtain⟨g,hg,hv⟩:=hx
  obtain⟨⟨h0,h1⟩,hk⟩:=h
  refine ResP.mk (key _ _ _ hv (ev_int rep e2) h0 h1) hk ?_
  simp only[Is]
  exact⟨g,hg,by rw[add_lit]⟩
 ·rename_i en ver off k j e1 e2
  rw[e1] at hx; simp only[Is] at hx
  obtain⟨t0,ver',sz0,A,m,c,xs,hm,hle,_,hv⟩:=hx
  obtain⟨t1,sz1,A1,n1,c1,xs1,he,⟨h0,h1⟩,hk⟩:=zj1q h
  rw[hm] at he; injection he with he; injection he with f1 f2 f3 f4 f5 f6 f7
  subst f1; subst f2; subst f3; subst f4; subst f5; subst f6; subst f7
  obtain⟨A',rfl,hv'⟩:=hv rfl
  refine ResP.mk (key _ _ _ hv' (ev_int rep e2) h0 h1) hk ?_
  simp only[Is]
  exact⟨_,_,_,_,_,_,_,hm,hle,⟨_,rfl⟩,fun _=>⟨_,rfl,by rw[add_add]⟩⟩
 ·rename_i A off k j e1 e2
  rw[e1] at hx; simp only[Is] at hx
  obtain⟨⟨h0,h1,hA⟩,hk⟩:=h
  obtain⟨A',rfl⟩:=Option.isSome_iff_exists.1 hA
  refine ResP.mk (key _ _ _ hx (ev_int rep e2) h0 h1) hk ?_
  simp[Is,add_add]
 ·exact h.elim
end
theorem zj4x {α:Type}:∀ (n:Nat) (l r:List α),takeL n l=some r→r=l.take n∧r.length=n∧n≤l.length
 | 0,l,r,h=>by simp[takeL] at h; subst h; simp
 | n+1,[],r,h=>by simp[takeL] at h
 | n+1,x :: l,r,h=>by
  simp only[takeL] at h
  split at h
  ·rename_i q hq
   obtain⟨e,h1,h2⟩:=zj4x n l q hq
   injection h with h; subst h; subst e
   simp at h1 ⊢; omega
  ·cases h
theorem zj4y {α:Type}:∀ (n:Nat) (l:List α),dropL n l=l.drop n
 | 0,l=>by simp[dropL]
 | n+1,[]=>by simp[dropL]
 | n+1,x :: l=>by simp[dropL,zj4y n l]
theorem zj0l {α:Type}:∀ (l:List α) (off:Nat) (vs:List α),(splice l off vs).length=l.length
 | l,off,[]=>rfl
 | l,off,v :: vs=>by rw[splice,zj0l,zj0k,List.length_set]
theorem zj0m {α:Type}:∀ (l:List α) (off:Nat) (vs:List α) (j:Nat),off+vs.length≤l.length →
  (splice l off vs)[j]? = if off≤j∧j < off+vs.length then vs[j - off]? else l[j]?
 | l,off,[],j,_=>by simp only[splice,List.length_nil,Nat.add_zero]; rw[if_neg (by omega)]
 | l,off,v :: vs,j,h=>by
  simp at h
  rw[splice,zj0m _ (off+1) vs j (by rw[zj0k,List.length_set]; omega),zj0k]
  simp only[List.length_cons]
  by_cases h1:off+1≤j∧j < off+1+vs.length
  ·rw[if_pos h1,if_pos (by omega)]
   have:j - off=(j - (off+1))+1:=by omega
   rw[this,List.getElem?_cons_succ]
  ·rw[if_neg h1]
   by_cases h2:j=off
   ·subst h2
    rw[if_pos (by omega),List.getElem?_set_self (by omega)]; simp
   ·rw[if_neg (by omega),List.getElem?_set_ne (by omega)]
theorem zj3e {α:Type} (l:List α) (off:Nat) (vs:List α) (h:off+vs.length≤l.length):splice l off vs=l.take off++vs++l.drop (off+vs.length):=by
 apply List.ext_getElem?
 intro j
 rw[zj0m l off vs j h]
 rw[List.append_assoc,List.getElem?_append,List.getElem?_append]
 have hl:(l.take off).length=off:=by simp; omega
 rw[hl]
 by_cases h1:j < off
 ·rw[if_neg (by omega),if_pos h1,List.getElem?_take,if_pos h1]
 ·rw[if_neg h1]
  by_cases h2:j < off+vs.length
  ·rw[if_pos (by omega),if_pos (by omega)]
  ·rw[if_neg (by omega),if_neg (by omega),List.getElem?_drop]
   congr 1; omega
section
variable {H:List SO}
theorem IsL.length:∀ {l:List SV} {us:List Value},IsL H l us→us.length=l.length
 | [],us,h=>by simp[IsL] at h; simp[h]
 | s :: l,us,h=>by simp only[IsL] at h; obtain⟨v,r,_,hr,rfl⟩:=h; simp[IsL.length hr]
theorem IsL.get:∀ {l:List SV} {us:List Value} {j:Nat} {s:SV},IsL H l us→l[j]? = some s→∃ u,us[j]? = some u∧Is H s u
 | [],us,j,s,h,k=>by simp at k
 | x :: l,us,0,s,h,k=>by
  simp only[IsL] at h; obtain⟨v,r,hv,hr,rfl⟩:=h; simp at k; subst k; exact⟨v,by simp,hv⟩
 | x :: l,us,j+1,s,h,k=>by
  simp only[IsL] at h; obtain⟨v,r,hv,hr,rfl⟩:=h; simp at k
  obtain⟨u,hu,hs⟩:=IsL.get hr k; exact⟨u,by simpa using hu,hs⟩
theorem IsL.of_get:∀ {l:List SV} {us:List Value},us.length=l.length→(∀ (j:Nat) (s:SV) (u:Value),l[j]? = some s→us[j]? = some u→Is H s u)→IsL H l us
 | [],us,h,_=>by simp at h; simp[IsL,h]
 | s :: l,[],h,_=>by simp at h
 | s :: l,u :: us,h,k=>by
  simp only[IsL]
  exact⟨u,us,k 0 s u rfl rfl,IsL.of_get (by simpa using h) fun j s' u' h1 h2=>k (j+1) s' u' (by simpa using h1) (by simpa using h2),rfl⟩
theorem IsL.takeDrop {l vs:List SV} {us:List Value} {n off:Nat} (h:IsL H l us) (ht:takeL n (dropL off l)=some vs) :
  IsL H vs ((us.drop off).take n)∧vs.length=n∧(n=0∨off+n≤l.length):=by
 obtain⟨e,h1,h2⟩:=zj4x _ _ _ ht
 rw[zj4y] at e h2
 have hl:=h.length
 have hlen:off+n≤l.length∨n=0:=by simp at h2; omega
 refine⟨?_,h1,?_⟩
 ·subst e
  refine IsL.of_get (by simp; omega) fun j s u hs hu=>?_
  rw[List.getElem?_take] at hs hu
  split at hs
  ·rename_i hj
   rw[if_pos hj] at hu
   rw[List.getElem?_drop] at hs hu
   obtain⟨u',hu',hi⟩:=h.get hs
   rw[hu'] at hu; injection hu with hu; subst hu; exact hi
  ·cases hs
 ·omega
theorem IsL.splice {l vs:List SV} {us ws:List Value} {off:Nat} (h:IsL H l us) (hv:IsL H vs ws) (hl:off+vs.length≤l.length):IsL H (splice l off vs) (Sx.splice us off ws):=by
 have e1:=h.length; have e2:=hv.length
 refine IsL.of_get (by rw[zj0l,zj0l,e1]) fun j s u hs hu=>?_
 rw[zj0m _ _ _ _ hl] at hs
 rw[zj0m _ _ _ _ (by omega)] at hu
 rw[e2] at hu
 split at hs
 ·rename_i hj; rw[if_pos hj] at hu
  obtain⟨u',hu',hi⟩:=hv.get hs
  rw[hu'] at hu; injection hu with hu; subst hu; exact hi
 ·rename_i hj; rw[if_neg hj] at hu
  obtain⟨u',hu',hi⟩:=h.get hs
  rw[hu'] at hu; injection hu with hu; subst hu; exact hi
theorem IsL.append {l l':List SV} {us us':List Value} (h:IsL H l us) (h':IsL H l' us'):IsL H (l++l') (us++us'):=by
 induction l generalizing us with
 | nil=>simp[IsL] at h; subst h; simpa using h'
 | cons s l ih =>
  simp only[IsL] at h; obtain⟨v,r,hv,hr,rfl⟩:=h
  simp only[List.cons_append,IsL]
  exact⟨v,r++us',hv,ih hr,rfl⟩
theorem IsL.svc (l:List Value):IsL H (l.map Sx.svc) l:=by
 induction l with
 | nil=>simp[IsL]
 | cons v l ih=>simp only[List.map_cons,IsL]; exact⟨v,l,svc_is H v,ih,rfl⟩
end
theorem zj5p {H:List SO}:∀ {s:SV} {v:Value},okCell s=true→Is H s v→v.oneCell'=true
 | .unk,v,h,_=>by simp[okCell] at h
 | .val u,v,h,k=>by simp[Is] at k; subst k; cases v <;> first | rfl | simp[okCell] at h
 | .opq u hu,v,h,k=>by simp[Is] at k; subst k; exact hu
 | .bt,v,_,k=>by simp[Is] at k; subst k; rfl
 | .bf,v,_,k=>by simp[Is] at k; subst k; rfl
 | .ptr i off,v,_,k=>by simp only[Is] at k; obtain⟨_,_,rfl⟩:=k; rfl
 | .adr A off,v,_,k=>by simp only[Is] at k; subst k; rfl
 | .slc i off n c,v,_,k=>by simp only[Is] at k; obtain⟨_,_,rfl⟩:=k; rfl
 | .own i ver,v,_,k=>by simp only[Is] at k; obtain⟨_,_,_,_,_,_,_,_,_,⟨_,_,_,rfl⟩,_⟩:=k; rfl
 | .oad i ver off,v,_,k=>by simp only[Is] at k; obtain⟨_,_,_,_,_,_,_,_,_,⟨_,rfl⟩,_⟩:=k; rfl
 | .mp i,v,_,k=>by simp only[Is] at k; obtain⟨_,_,rfl⟩:=k; rfl
 | .agg l,v,h,_=>by simp[okCell] at h
 | .tup l,v,h,_=>by simp[okCell] at h
 | .fn f a b,v,_,k=>by simp only[Is] at k; obtain⟨_,_,_,_,rfl⟩:=k; rfl
theorem okL_one {H:List SO}:∀ {l:List SV} {vs:List Value},okL l=true→IsL H l vs→∀ v ∈ vs,v.oneCell'=true
 | [],vs,_,k=>by simp[IsL] at k; subst k; simp
 | s :: l,vs,h,k=>by
  simp only[IsL] at k; obtain⟨v,r,hv,hr,rfl⟩:=k
  simp only[okL] at h
  split at h
  ·rename_i hs
   intro u hu
   rcases List.mem_cons.1 hu with rfl | hu
   ·exact zj5p hs hv
   ·exact okL_one h hr u hu
  ·cases h
theorem one_cells {v:Value} (h:v.oneCell'=true):v.cells=#[v]:=by cases v <;> first | rfl | simp[Value.oneCell'] at h
theorem zj2f {H:List SO} {n:Nat} {s:SV} {v:Value} {l:List SV} (h:cellsOf n s=some l) (k:Is H s v) :
  ∃ us:List Value,v.cells=us.toArray∧IsL H l us∧us.length=n∧∀ u ∈ us,u.oneCell'=true:=by
 have single:∀ (s:SV),(match n == 1,okCell s with | true,true=>some [s] | _,_=>none)=some l→Is H s v→∃ us:List Value,v.cells=us.toArray∧IsL H l us∧us.length=n∧∀ u ∈ us,u.oneCell'=true:=by
  intro s h k
  split at h
  ·rename_i h1 h2
   injection h with h; subst h
   have:=zj5p h2 k
   have hn:n=1:=by simpa using h1
   exact⟨[v],one_cells this,by simp[IsL]; exact k,by simp[hn],by simpa using this⟩
  ·cases h
 cases s with
 | agg l' =>
  simp only[cellsOf] at h
  split at h
  ·rename_i h1 h2
   injection h with h; subst h
   simp only[Is] at k
   obtain⟨vs,hl,rfl⟩:=k
   exact⟨vs,rfl,hl,by rw[hl.length]; simpa using h1,okL_one h2 hl⟩
  ·cases h
 | _=>exact single _ h k
section
variable {E:Env} {P:Program} {s:SS} {K:SV→List SO→Prop} {o:Oper} {a:Act} {W:World}
theorem s_fld {t:TypeId} {fs:Array Field} {i n:Nat} {fd:Field} {x:Operand} (ht:P.underlying t=some (.struct fs)) (hf:fs[i]? = some fd) (hz:szT P fd.type=some (n+1))
  (ho:o.op=.fieldAddr t x i) (rep:Rep E s a W) (h:xk E s K (.fld fd.offset x)):ResP P s K o a:=by
 have key:∀ A,a.eval x=.pointer (some A)→∀ W2:World,(execOp a.eval o).run P W2=.ok (.value (.pointer (some (A.add fd.offset)))) W2:=by
  intro A hx
  simp[execOp,ho,Instr.fieldAt,hx,run_underlying ht,hf,Instr.sureAddr,fieldPlace,zj0d hz]
 have hx:=rep.ev x
 simp only[xk] at h
 split at h
 ·rename_i e off e1
  rw[e1] at hx; simp only[Is] at hx
  obtain⟨g,hg,hv⟩:=hx
  refine ResP.mk (key _ hv) h ?_
  simp only[Is]; exact⟨g,hg,by rw[add_lit]⟩
 ·rename_i e ver off e1
  rw[e1] at hx; simp only[Is] at hx
  obtain⟨t0,ver',sz0,A,m,c,xs,hm,hle,_,hv⟩:=hx
  obtain⟨t1,sz1,A1,n1,c1,xs1,he,hk⟩:=zj1q h
  rw[hm] at he; injection he with he; injection he with f1 f2 f3 f4 f5 f6 f7
  subst f1; subst f2; subst f3; subst f4; subst f5; subst f6; subst f7
  obtain⟨A',rfl,hv'⟩:=hv rfl
  refine ResP.mk (key _ hv') hk ?_
  simp only[Is]
  exact⟨_,_,_,_,_,_,_,hm,hle,⟨_,rfl⟩,fun _=>⟨_,rfl,by rw[add_add]⟩⟩
 ·rename_i A off e1
  rw[e1] at hx; simp only[Is] at hx
  obtain⟨hA,hk⟩:=h
  obtain⟨A',rfl⟩:=Option.isSome_iff_exists.1 hA
  refine ResP.mk (key _ hx) hk ?_
  simp[Is,add_add]
 ·exact h.elim
theorem zj1c (P:Program) (t:TypeId) (h:(P.underlying t).isSome=true) (W:World):(isAgg t).run P W=.ok (isAggT P t) W:=by
 obtain⟨d,hd⟩:=Option.isSome_iff_exists.1 h
 simp only[isAgg,Sem.run_bind,run_underlying hd,Result.andThen_ok,isAggT,hd]
 cases d <;> rfl
theorem zj6v {agg:Bool} {l:List SV} {C:SV→Prop} (h:one agg l C):(agg=true∧C (.agg l))∨(agg=false∧∃ v,l=[v]∧C v):=by
 unfold one at h
 split at h
 ·exact .inl ⟨rfl,h⟩
 ·exact .inr ⟨rfl,_,rfl,h⟩
 ·exact h.elim
theorem ckEx_spec {H:List SO} {c:CK} {F:Value→Prop} {C:SV→Prop} (h:ckEx c F C):∃ u s,F u∧Is H s u∧C s:=by
 cases c <;> simp only[ckEx] at h
 ·obtain⟨n,h1,h2⟩:=h; exact⟨_,_,h1,by simp[Is],h2⟩
 ·obtain⟨n,h1,h2⟩:=h; exact⟨_,_,h1,by simp[Is],h2⟩
 ·obtain⟨n,h1,h2⟩:=h; exact⟨_,_,h1,by simp[Is],h2⟩
 ·obtain⟨n,h1,h2⟩:=h; exact⟨_,_,h1,by cases n <;> simp[Is,Addr.add],h2⟩
 ·obtain⟨p,n,c,h1,h2⟩:=h; exact⟨_,_,h1,by simp[Is],h2⟩
 ·obtain⟨n,h1,h2⟩:=h; exact⟨_,_,h1,by simp[Is],h2⟩
 ·obtain⟨n,h1,hn,h2⟩:=h; exact⟨_,_,h1,by simp[Is],h2⟩
 ·obtain⟨n,h1,hn,h2⟩:=h; exact⟨_,_,h1,by simp[Is],h2⟩
theorem zj1x {H:List SO}:∀ {cks:List CK} {F:Nat→Value→Prop} {off:Nat} {C:List SV→Prop},ckExL cks F off C →
  ∃ us l,us.length=cks.length∧(∀ j u,us[j]? = some u→F (off+j) u)∧IsL H l us∧C l
 | [],F,off,C,h=>⟨[],[],rfl,by simp,by simp[IsL],h⟩
 | c :: cks,F,off,C,h=>by
  simp only[ckExL] at h
  obtain⟨u,sv,hu,hi,h⟩:=ckEx_spec (H:=H) h
  obtain⟨us,l,hl,hF,hL,hC⟩:=zj1x h
  refine⟨u :: us,sv :: l,by simp[hl],?_,by simp only[IsL]; exact⟨u,us,hi,hL,rfl⟩,hC⟩
  intro j v hj
  cases j with
  | zero=>simp at hj; subst hj; exact hu
  | succ j=>simp at hj; have:=hF j v hj; rwa [show off+1+j=off+(j+1) by omega] at this
theorem s_load {t:TypeId} {cks:List CK} {x:Operand} (hpos:0 < cks.length) (hu:(P.underlying t).isSome=true) (hz:szT P t=some cks.length) (ho:o.op=.load t x) (rep:Rep E s a W)
  (h:xk E s K (.load cks (isAggT P t) x)):ResR P s K o a W:=by
 have key:∀ (A:Addr) (us:List Value),a.eval x=.pointer (some A)→us.length=cks.length→(∀ j u,us[j]? = some u→W.cell? (A.add j)=some u) →
   ∀ W2,Grow W W2→(isAggT P t=true→(execOp a.eval o).run P W2=.ok (.value (.agg us.toArray)) W2)∧(isAggT P t=false→∀ u,us=[u]→(execOp a.eval o).run P W2=.ok (.value u) W2):=by
  intro A us hx hl hc W2 hgr
  have hc:∀ (j:Nat) (u:Value),us[j]? = some u→W2.cell? (A.add j)=some u:=fun j u hj=>hgr.cell (hc j u hj)
  have hlc:=run_loadCells_list (P:=P) W2 A us hc
  rw[hl] at hlc
  constructor
  ·intro hg
   simp only[execOp,ho,Instr.loadAt,hx,Instr.sureAddr,loadVar,Sem.run_bind,Sem.run_pure,Result.andThen_ok,zj1c P t hu,hg,if_true,zj0d hz,hlc]
  ·intro hg u e
   subst e
   have h0:=hc 0 u rfl
   simp only[Addr.add,if_true] at h0
   simp only[execOp,ho,Instr.loadAt,hx,Instr.sureAddr,loadVar,Sem.run_bind,Sem.run_pure,Result.andThen_ok,zj1c P t hu,hg,Bool.false_eq_true,if_false,run_load,h0]
 have fin:∀ (A:Addr) (us:List Value) (l:List SV),a.eval x=.pointer (some A)→us.length=cks.length→(∀ j u,us[j]? = some u→W.cell? (A.add j)=some u)→IsL s.H l us →
   one (isAggT P t) l (fun v=>K v s.H)→ResR P s K o a W:=by
  intro A us l hx hl hc hL h1
  rcases zj6v h1 with⟨hg,hk⟩ | ⟨hg,v,rfl,hk⟩
  ·exact⟨_,_,fun W2 g=>(key A us hx hl hc W2 g).1 hg,hk,(by simp only[Is]; exact⟨us,hL,rfl⟩)⟩
  ·simp only[IsL] at hL
   obtain⟨u,r,hi,rfl,rfl⟩:=hL
   exact⟨_,_,fun W2 g=>(key A [u] hx hl hc W2 g).2 hg u rfl,hk,hi⟩
 have hx:=rep.ev x
 simp only[xk,xload] at h
 split at h
 ·rename_i i off e1
  rw[e1] at hx; simp only[Is] at hx
  obtain⟨g,hg,hv⟩:=hx
  unfold atEntry at h
  rw[blk_eq] at hg
  split at h
  ·rename_i g' t' l hn
   rw[hn] at hg; simp only[Option.bind_some,SO.blk] at hg; injection hg with hg; subst hg
   split at h
   ·rename_i vs htk
    obtain⟨c,hc,hL⟩:=rep.heap.ents i _ hn
    obtain⟨hL',hlen,_⟩:=hL.takeDrop htk
    refine fin ⟨g',off,none⟩ _ vs hv (by rw[hL'.length,hlen]) ?_ hL' h
    intro j u hj
    rw[List.getElem?_take] at hj
    split at hj
    ·rw[List.getElem?_drop] at hj
     rw[add_lit,cell_of_row W g' _ c t' (0,0) hc]
     simpa using hj
    ·cases hj
   ·exact h.elim
  ·rename_i g' t' xs hn
   rw[hn] at hg; simp only[Option.bind_some,SO.blk] at hg; injection hg with hg; subst hg
   obtain⟨us,l,hl,hF,hL,hk⟩:=zj1x (H:=s.H) h
   have hc:=rep.heap.ents i _ hn
   refine fin ⟨g',off,none⟩ us l hv hl ?_ hL hk
   intro j u hj
   rw[add_lit,cell_of_row W g' _ xs.toArray t' (0,0) hc]
   simpa using hF j u hj
  ·rename_i g' t' xs hn
   rw[hn] at hg; simp only[Option.bind_some,SO.blk] at hg; injection hg with hg; subst hg
   obtain⟨us,l,hl,hF,hL,hk⟩:=zj1x (H:=s.H) h
   obtain⟨cur,z,hc,hcx⟩:=rep.heap.ents i _ hn
   refine fin ⟨g',off,none⟩ us l hv hl ?_ hL hk
   intro j u hj
   rw[add_lit,cell_of_row W g' _ cur t' z hc]
   have h1:=hF j u hj
   rw[← hcx,List.getElem?_take] at h1
   split at h1
   ·simpa using h1
   ·cases h1
  ·exact h.elim
 ·rename_i A off e1
  rw[e1] at hx; simp only[Is] at hx
  obtain⟨us,l,hl,hF,hL,hk⟩:=zj1x (H:=s.H) h
  cases A with
  | none =>
   cases cks with
   | nil=>simp at hpos
   | cons c cks =>
    cases us with
    | nil=>simp at hl
    | cons u us=>obtain⟨A',e,_⟩:=hF 0 u rfl; cases e
  | some A' =>
   refine fin (A'.add off) us l hx hl ?_ hL hk
   intro j u hj
   obtain⟨A2,e,hold,hc⟩:=hF j u hj
   injection e with e; subst e
   rw[add_add]
   have:=rep.heap.keep.block A'.block hold
   have hb:(A'.add (off+j)).block=A'.block:=by unfold Addr.add; split <;> rfl
   have e2:W.cell? (A'.add (off+j))=E.b.cell? (A'.add (off+j)):=by unfold World.cell?; rw[hb,this]
   rw[e2]; exact hc
 ·rename_i i ver off e1
  rw[e1] at hx; simp only[Is] at hx
  obtain⟨t0,ver',sz0,A,m,c,xs,hm,hle,_,hv⟩:=hx
  obtain⟨t1,sz1,A1,n1,c1,xs1,he,hk⟩:=zj1q h
  rw[hm] at he; injection he with he; injection he with f1 f2 f3 f4 f5 f6 f7
  subst f1; subst f2; subst f3; subst f4; subst f5; subst f6; subst f7
  obtain⟨A',rfl,hv'⟩:=hv rfl
  obtain⟨us,l,hl,hF,hL,hk⟩:=zj1x (H:=s.H) hk
  obtain⟨hxl,hr⟩:=rep.heap.ents i _ hm
  rcases hr with⟨e,_,_⟩ | ⟨g,b,cur,e,hg,hn1,hn2,hcs,htk⟩
  ·refine fin _ us l hv' hl ?_ hL hk
   intro j u hj
   have:=hF j u hj
   have h0:=(List.getElem?_eq_some_iff.1 this).1
   rw[hxl,e] at h0; simp at h0
  injection e with e; subst e
  refine fin _ us l hv' hl ?_ hL hk
  intro j u hj
  have:=hF j u hj
  rw[add_add,add_lit,cell_of_row W g _ cur _ (0,0) hg,← htk] at *
  rw[List.getElem?_take] at this
  split at this
  ·rw[List.getElem?_drop] at this; simpa using this
  ·cases this
 ·exact h.elim
end
section
variable {E:Env} {P:Program} {s:SS} {K:SV→List SO→Prop} {o:Oper} {a:Act} {W:World}
theorem zj2g (W:World) (g:Nat) (c:Array Value) (j:Nat) (h:j ≠ g):(W.setRow g c).heap[j]? = W.heap[j]? := by
 simp only[World.setRow,Array.getElem?_modify]
 rw[if_neg (by omega)]
theorem run_storeAt {t:TypeId} {n g off:Nat} {tt:TypeId} {cur:Array Value} {v:Value} {us:List Value} (hz:szT P t=some n) (hv:v.cells=us.toArray) (hn:us.length=n)
  (h1:∀ u ∈ us,u.oneCell'=true) (hg:W.heap[g]? = some (.cells cur tt (0,0))) (hl:off+n≤cur.size) :
  (Instr.storeAt t (.pointer (some ⟨g,off,none⟩)) v).run P W=.ok () (W.setRow g (splice cur.toList off us).toArray):=by
 have hst:=run_storeCells_at P g off tt us 0 cur W hg (by simp; omega) h1
 rw[zj3e _ _ _ (by simp; omega)]
 simp only[Instr.storeAt,Instr.sureAddr,storeVar,Sem.run_bind,Sem.run_pure,Result.andThen_ok,zj0d hz,hv]
 simp only[List.size_toArray,hn,ne_eq,not_true_eq_false,if_false,Sem.run_bind,Sem.run_pure,Result.andThen_ok]
 subst hn
 simpa using hst
theorem denL_isL {H:List SO} {l:List SV} {us vs:List Value} (h:denL H l=some us) (k:IsL H l vs):vs=us:=zj0t l h k
theorem s_store {t:TypeId} {n:Nat} {x v:Operand} (hpos:0 < n) (hz:szT P t=some n) (ho:o.op=.store t x v) (rep:Rep E s a W) (h:xk E s K (.store n x v)):Res E P s K o a W:=by
 have key:∀ (g off:Nat) (tt:TypeId) (cur:Array Value) (us:List Value),a.eval x=.pointer (some ⟨g,off,none⟩)→(a.eval v).cells=us.toArray→us.length=n→(∀ u ∈ us,u.oneCell'=true) →
   W.heap[g]? = some (.cells cur tt (0,0))→off+n≤cur.size→(execOp a.eval o).run P W=.ok .skip (W.setRow g (splice cur.toList off us).toArray):=by
  intro g off tt cur us hx hv hn h1 hg hl
  have:=run_storeAt (P:=P) (W:=W) hz hv hn h1 hg hl
  simp[execOp,ho,hx,this]
 have hx:=rep.ev x
 simp only[xk,xstore] at h
 split at h
 ·exact h.elim
 rename_i l hcl
 obtain⟨us,hus,hL,hlen,h1⟩:=zj2f hcl (rep.ev v)
 have done:∀ (g off i:Nat) (tt:TypeId) (cur:Array Value) (e e':SO),a.eval x=.pointer (some ⟨g,off,none⟩)→W.heap[g]? = some (.cells cur tt (0,0))→off+n≤cur.size →
   nth s.H i=some e→HExt s.H (setn s.H i e')→e.fp=some g→e'.fp=some g →
   EntryOk (setn s.H i e') (fun j=>(W.setRow g (splice cur.toList off us).toArray).heap[j]?) e'→K (.val undef) (setn s.H i e')→Res E P s K o a W:=by
  intro g off i tt cur e e' hx hg hl hn hext hf hf' hok hk
  refine⟨undef,_,.val undef,setn s.H i e',.inr ⟨key g off tt cur us hx hus hlen h1 hg hl,rfl⟩,hk,by simp[Is],hext,?_⟩
  refine rep.heap.set hn hext (fun g' hg'=>.inl (by rw[hf'] at hg'; injection hg' with hg'; subst hg'; exact hf)) ?_ (by simp[World.setRow]) rfl rfl rfl hok
  intro j hj _
  exact zj2g W g _ j (fun e=>hj (by subst e; exact hf))
 split at h
 ·rename_i i off e1
  rw[e1] at hx; simp only[Is] at hx
  obtain⟨g,hg,hv⟩:=hx
  rw[blk_eq] at hg
  split at h
  ·rename_i g' tt c hn
   rw[hn] at hg; simp only[Option.bind_some,SO.blk] at hg; injection hg with hg; subst hg
   split at h
   case h_2=>exact h.elim
   rename_i _ htk
   obtain⟨cur,hc,hcL⟩:=rep.heap.ents i _ hn
   obtain⟨_,_,hfit⟩:=hcL.takeDrop htk
   have hcl':=hcL.length
   have hext:=HExt.setBlk (e':=.cells g' tt (splice c off l)) hn rfl rfl
   refine done g' off i tt cur _ _ hv hc (by simp at hcl'; omega) hn hext rfl rfl ?_ h
   exact⟨_,setRow_heap W g' cur _ tt _ hc,(hcL.splice hL (by rw[← hL.length]; omega)).ext hext⟩
  ·rename_i g' tt xs hn
   rw[hn] at hg; simp only[Option.bind_some,SO.blk] at hg; injection hg with hg; subst hg
   split at h
   case h_2=>exact h.elim
   rename_i ws hd
   obtain rfl:=denL_isL hd hL
   obtain⟨hfit,hk⟩:=h
   have hc:=rep.heap.ents i _ hn
   have hext:=HExt.setBlk (e':=.row g' tt (splice xs off us)) hn rfl rfl
   refine done g' off i tt xs.toArray _ _ hv hc (by simpa using hfit) hn hext rfl rfl ?_ hk
   exact setRow_heap W g' xs.toArray _ tt _ hc
  ·exact h.elim
 ·rename_i i ver off e1
  rw[e1] at hx; simp only[Is] at hx
  obtain⟨t0,ver',sz0,A,m,c,xs,hm,hle,_,hv⟩:=hx
  obtain⟨t1,sz1,A1,n1,c1,xs1,he,hk⟩:=zj1q h
  rw[hm] at he; injection he with he; injection he with f1 f2 f3 f4 f5 f6 f7
  subst f1; subst f2; subst f3; subst f4; subst f5; subst f6; subst f7
  split at hk
  case h_2=>exact hk.elim
  rename_i ws hd
  obtain rfl:=denL_isL hd hL
  obtain⟨hfit,hk⟩:=hk
  obtain⟨A',rfl,hv'⟩:=hv rfl
  obtain⟨hxl,hr⟩:=rep.heap.ents i _ hm
  rcases hr with⟨e,_,_⟩ | ⟨g,b,cur,e,hg,hn1,hn2,hcs,htk⟩
  ·exfalso
   rw[e,Nat.zero_mul] at hxl
   omega
  injection e with e; subst e
  rw[add_lit] at hv'
  have hext:HExt s.H (setn s.H i (.own t0 ver' sz0 (some ⟨g,b,none⟩) m c (splice xs off us))):=HExt.setOwn hm (Nat.le_refl _) (fun _=>⟨rfl,rfl,rfl⟩)
  have hmc:m*sz0≤c*sz0:=Nat.mul_le_mul_right _ hn1
  have hxl':b+xs.length≤cur.size:=by omega
  refine done g (b+off) i t0 cur _ _ hv' hg (by omega) hm hext rfl rfl ?_ hk
  refine⟨by rw[zj0l]; exact hxl,.inr ⟨g,b,_,rfl,setRow_heap W g cur _ t0 _ hg,hn1,hn2,by simp[zj0l,hcs],?_⟩⟩
  apply List.ext_getElem?
  intro j
  have hxl2:b+off+us.length≤cur.toList.length:=by simp; omega
  rw[List.getElem?_take,zj0m xs off us j (by omega)]
  simp only[]
  rw[List.getElem?_drop,zj0m cur.toList (b+off) us (b+j) hxl2]
  by_cases hj:j < m*sz0
  ·rw[if_pos hj]
   by_cases hin:off≤j∧j < off+us.length
   ·rw[if_pos hin,if_pos (by omega)]; congr 1; omega
   ·rw[if_neg hin,if_neg (by omega),← htk,List.getElem?_take,if_pos hj,List.getElem?_drop]
  ·rw[if_neg hj,if_neg (by omega),← htk,List.getElem?_take,if_neg hj]
 ·exact h.elim
theorem blkNew (H:List SO) (g:Nat) (t:TypeId) (l:List SV):blk (H++[.cells g t l]) H.length=some g:=by
 rw[blk_eq,nth_eq]; simp[SO.blk]
theorem run_zero {t:TypeId} {z:List Value} (h:zeroT P t=some z) (W:World):∃ v,(zeroValue t).run P W=.ok v W∧v.cells=z.toArray:=by
 unfold zeroT at h
 split at h
 ·rename_i i hi
  split at h
  ·rename_i v hv
   injection h with h
   exact⟨v,by simp[zeroValue,typeInfo,hi,hv],by rw[← h]⟩
  ·cases h
 ·cases h
theorem zj4z {t:TypeId} {z:List Value} (h:zeroT P t=some z):∃ v,(∀ W:World,(zeroValue t).run P W=.ok v W)∧v.cells=z.toArray:=by
 unfold zeroT at h
 split at h
 ·rename_i i hi
  split at h
  ·rename_i v hv
   injection h with h
   exact⟨v,by simp[zeroValue,typeInfo,hi,hv],by rw[← h]⟩
  ·cases h
 ·cases h
theorem zj6w (rep:Rep E s a W) {t:TypeId} {l:List SV} {us:List Value} (hL:IsL s.H l us) :
  HExt s.H (s.H++[.cells W.heap.size t l])∧HeapOk E (s.H++[.cells W.heap.size t l]) (W.alloc (.cells us.toArray t)):=by
 have hx:=HExt.push s.H (.cells W.heap.size t l)
 exact⟨hx,rep.heap.push _ _ rfl ⟨us.toArray,heap_alloc_new W _,by simpa using hL.ext hx⟩⟩
theorem s_alloc {t:TypeId} {z:List Value} (hz:zeroT P t=some z) (ho:o.op=.alloc t) (rep:Rep E s a W) (h:xk E s K (.alloc t z)):Res E P s K o a W:=by
 obtain⟨v,hv,hc⟩:=run_zero hz W
 simp only[xk] at h
 obtain⟨hx,hh⟩:=zj6w rep (t:=t) (IsL.svc (H:=s.H) z)
 refine⟨.pointer (some ⟨W.heap.size,0,none⟩),W.alloc (.cells z.toArray t),_,_,.inl ?_,h W.heap.size,?_,hx,hh⟩
 ·simp only[execOp,ho,Instr.alloc,Sem.run_bind,hv,Result.andThen_ok,newVar,newRow,run_newObj,Sem.run_pure,hc,Sem.run_map]
  rfl
 ·simp only[Is]; exact⟨_,blkNew _ _ _ _,rfl⟩
theorem s_box {t:TypeId} {n:Nat} {v:Operand} (ho:o.op=.box t v) (rep:Rep E s a W) (h:xk E s K (.box t n v)):Res E P s K o a W:=by
 simp only[xk] at h
 split at h
 case h_2=>exact h.elim
 rename_i l hcl
 obtain⟨us,hus,hL,_,_⟩:=zj2f hcl (rep.ev v)
 obtain⟨hx,hh⟩:=zj6w rep (t:=t) hL
 refine⟨.pointer (some ⟨W.heap.size,0,none⟩),W.alloc (.cells us.toArray t),_,_,.inl ?_,h W.heap.size,?_,hx,hh⟩
 ·simp only[execOp,ho,Instr.box,Sem.run_bind,Result.andThen_ok,newVar,newRow,run_newObj,Sem.run_pure,hus,Sem.run_map]
  rfl
 ·simp only[Is]; exact⟨_,blkNew _ _ _ _,rfl⟩
theorem fillStep {cells vs:Array Value} {off:Nat} (h:off+vs.size≤cells.size) :
  (vs.zipIdx.foldl (fun cs (p:Value × Nat)=>cs.setIfInBounds (off+p.2) p.1) cells).toList=splice cells.toList off vs.toList:=by
 obtain⟨l⟩:=vs
 have key:∀ (l:List Value) (k:Nat) (cs:Array Value),(l.zipIdx k).foldl (fun cs (p:Value × Nat)=>cs.setIfInBounds (off+p.2) p.1) cs=(splice cs.toList (off+k) l).toArray:=by
  intro l
  induction l with
  | nil=>intro k cs; simp[splice]
  | cons v l ih =>
   intro k cs
   simp only[List.zipIdx_cons,List.foldl_cons,ih,splice,zj0k,Array.toList_setIfInBounds]
   rfl
 have:=key l 0 cells
 simp at this ⊢
 rw[this]
theorem zj2m {place:Nat→Option (Nat × Nat)} (rep:Rep E s a W):∀ (qs:List (Nat × Operand)) (ps:List (Nat × Nat × Operand)) (cells:List Value) (l l':List SV),IsL s.H l cells→xfill s.F l ps=some l' →
  qs.length=ps.length→(∀ (j:Nat) (q:Nat × Operand) (p:Nat × Nat × Operand),qs[j]? = some q→ps[j]? = some p→q.2=p.2.2∧place q.1=some (p.1,p.2.1)) →
  ∃ out,Instr.fill place cells.toArray (qs.map fun q=>(q.1,a.eval q.2))=some out∧IsL s.H l' out.toList
 | [],[],cells,l,l',hL,hx,_,_=>by simp[xfill] at hx; subst hx; exact⟨cells.toArray,rfl,by simpa using hL⟩
 | [],_ :: _,_,_,_,_,_,h,_=>by simp at h
 | _ :: _,[],_,_,_,_,_,h,_=>by simp at h
 | (i,x) :: qs,(off,n,y) :: ps,cells,l,l',hL,hx,hlen,hp=>by
  obtain⟨h1,h2⟩:=hp 0 _ _ rfl rfl
  simp only at h1 h2
  subst h1
  simp only[xfill] at hx
  split at hx
  case h_2=>cases hx
  rename_i c _ n' hc htk
  obtain⟨us,hus,hU,hun,_⟩:=zj2f hc (rep.ev x)
  have hfit:=(IsL.takeDrop (H:=s.H) (n:=n'.succ) (off:=off) hL htk).2.2
  have hll:=hL.length
  have hfit':off+(n'+1)≤l.length:=hfit.resolve_left (Nat.succ_ne_zero _)
  have hun':us.length=n'+1:=hun
  have hcl:c.length=n'+1:=hU.length.symm.trans hun
  have hcc:cells.length=l.length:=hll
  clear hfit hun hll
  have hstep:=fillStep (cells:=cells.toArray) (vs:=us.toArray) (off:=off) (by simp; omega)
  have hL':=hL.splice (off:=off) hU (by omega)
  obtain⟨out,ho,hO⟩:=zj2m rep qs ps (splice cells off us) (splice l off c) l' hL' hx (by simpa using hlen) (fun j q p e1 e2=>hp (j+1) q p (by simpa using e1) (by simpa using e2))
  refine⟨out,?_,hO⟩
  simp only[List.map_cons]
  unfold Instr.fill
  simp only[h2,hus]
  rw[if_neg (by simp; omega)]
  rw[← ho]
  congr 1
  rw[← Array.toList_inj]
  simpa using hstep
theorem xfillS_eq (F:List (Nat × SV)) (sz:Nat):∀ (ps:List (Nat × Operand)) (l:List SV),xfillS F sz l ps=xfill F l (ps.map fun p=>(p.1*sz,sz,p.2))
 | [],l=>rfl
 | (i,x) :: ps,l=>by
  simp only[xfillS,List.map_cons,xfill]
  split
  ·exact xfillS_eq F _ ps _
  ·rfl
theorem cvS_spec {P:Program} {fs:Array Field}:∀ (ps:List (Nat × Operand)) (l:List (Nat × Nat × Operand)),cvS P fs ps=some l→ps.length=l.length ∧
  ∀ (j:Nat) (q:Nat × Operand) (p:Nat × Nat × Operand),ps[j]? = some q→l[j]? = some p→q.2=p.2.2∧∃ f,fs[q.1]? = some f∧f.offset=p.1∧szT P f.type=some p.2.1
 | [],l,h=>by simp[cvS] at h; subst h; simp
 | q :: ps,l,h=>by
  have e:cvS P fs (q :: ps)=(match fs[q.1]?,cvS P fs ps with
   | some f,some r=>(match szT P f.type with | some n=>some ((f.offset,n,q.2) :: r) | none=>none)
   | _,_=>none):=rfl
  rw[e] at h
  split at h
  case h_2=>cases h
  rename_i f r hf hr
  split at h
  case h_2=>cases h
  rename_i n hn
  injection h with h; subst h
  obtain⟨h1,h2⟩:=cvS_spec ps r hr
  refine⟨by simp[h1],fun j q' p' e1 e2=>?_⟩
  cases j with
  | zero=>simp at e1 e2; subst e1; subst e2; exact⟨rfl,f,hf,rfl,hn⟩
  | succ j=>exact h2 j q' p' (by simpa using e1) (by simpa using e2)
theorem run_places {fs:Array Field} {t:TypeId} (hall:∀ f ∈ fs,(szT P f.type).isSome=true) (W:World) :
  (fs.mapM fun f=>do pure (f.offset,← sizeOf f.type):Sem (Array (Nat × Nat))).run P W=.ok (fs.map fun f=>(f.offset,(szT P f.type).getD 0)) W:=by
 obtain⟨l⟩:=fs
 rw[List.mapM_toArray]
 simp only[Sem.run_map]
 have key:∀ (l:List Field),(∀ f ∈ l,(szT P f.type).isSome=true)→(l.mapM fun f=>do pure (f.offset,← sizeOf f.type):Sem (List (Nat × Nat))).run P W=.ok (l.map fun f=>(f.offset,(szT P f.type).getD 0)) W:=by
  intro l
  induction l with
  | nil=>intro _; rfl
  | cons f l ih =>
   intro h
   obtain⟨n,hn⟩:=Option.isSome_iff_exists.1 (h f (by simp))
   simp only[List.mapM_cons,Sem.run_bind,zj0d hn,Result.andThen_ok,Sem.run_pure,ih (fun g hg=>h g (by simp[hg])),List.map_cons,hn,Option.getD_some]
 rw[key l (by simpa using hall)]
 simp
theorem zj5q {t:TypeId} {fs:Array Field} {parts:Array (Nat × Operand)} {z:List Value} {l:List (Nat × Nat × Operand)} (ht:P.underlying t=some (.struct fs)) (hall:∀ f ∈ fs,(szT P f.type).isSome=true)
  (hz:zeroT P t=some z) (hc:cvS P fs parts.toList=some l) (ho:o.op=.build t parts) (rep:Rep E s a W) (h:xk E s K (.build z l)):ResP P s K o a:=by
 obtain⟨v,hv,hvc⟩:=zj4z hz
 simp only[xk] at h
 split at h
 case h_2=>exact h.elim
 rename_i l' hf
 obtain⟨hlen,hp⟩:=cvS_spec _ _ hc
 obtain⟨out,ho',hO⟩:=zj2m (place:=((fs.map fun f=>(f.offset,(szT P f.type).getD 0))[·]?)) rep parts.toList l z _ l' (IsL.svc z) hf hlen (fun j q p e1 e2=>by
  obtain⟨h1,f,h2,h3,h4⟩:=hp j q p e1 e2
  refine⟨h1,?_⟩
  simp[h2,h3,h4])
 refine ResP.mk (v:=.agg out) ?_ h (by simp only[Is]; exact⟨out.toList,hO,by simp⟩)
 have e:(parts.map fun (i,x)=>(i,a.eval x)).toList=parts.toList.map fun q=>(q.1,a.eval q.2):=by simp
 simp only[execOp,ho,Instr.build,Sem.run_bind,hv,Result.andThen_ok,run_underlying ht,run_places (t:=t) hall,hvc,e,ho',Sem.run_pure,implies_true]
theorem zj6x {t e:TypeId} {m n:Nat} {parts:Array (Nat × Operand)} {z:List Value} (ht:P.underlying t=some (.array m e)) (hn:szT P e=some n)
  (hz:zeroT P t=some z) (ho:o.op=.build t parts) (rep:Rep E s a W) (h:xk E s K (.build z (parts.toList.map fun p=>(p.1*n,n,p.2)))):ResP P s K o a:=by
 obtain⟨v,hv,hvc⟩:=zj4z hz
 simp only[xk] at h
 split at h
 case h_2=>exact h.elim
 rename_i l' hf
 obtain⟨out,ho',hO⟩:=zj2m (place:=fun i=>some (i*n,n)) rep parts.toList _ z _ l' (IsL.svc z) hf (by simp) (fun j q p e1 e2=>by
  simp at e2
  obtain⟨x,y,hx,rfl⟩:=e2
  simp[hx] at e1; subst e1; simp)
 refine ResP.mk (v:=.agg out) ?_ h (by simp only[Is]; exact⟨out.toList,hO,by simp⟩)
 have e:(parts.map fun (i,x)=>(i,a.eval x)).toList=parts.toList.map fun q=>(q.1,a.eval q.2):=by simp
 simp only[execOp,ho,Instr.build,Sem.run_bind,hv,Result.andThen_ok,run_underlying ht,zj0d hn,hvc,e,ho',Sem.run_pure,implies_true]
theorem repL_is (H:List SO) {z:List Value} {l:List SV} (h:IsL H l z) (n:Nat):IsL H (repL l n) ((Array.range (n*z.length)).map (fun i=>z.toArray[i % z.length]!)).toList:=by
 have key:∀ n,((Array.range (n*z.length)).map (fun i=>z.toArray[i % z.length]!)).toList=(List.replicate n z).flatten:=by
  intro n
  induction n with
  | zero=>simp
  | succ n ih =>
   rw[List.replicate_succ',List.flatten_append,← ih]
   have e:(n+1)*z.length=n*z.length+z.length:=by rw[Nat.add_mul,Nat.one_mul]
   simp only[e,Array.toList_map,Array.toList_range,List.range_add,List.map_append,List.map_map]
   congr 1
   simp only[List.flatten_cons,List.flatten_nil,List.append_nil]
   apply List.ext_getElem?
   intro j
   simp only[List.getElem?_map,Function.comp_def]
   by_cases hj:j < z.length
   ·rw[List.getElem?_range hj]
    simp[Nat.mul_comm n,Nat.mod_eq_of_lt hj,hj]
   ·rw[List.getElem?_eq_none (by simp; omega),List.getElem?_eq_none (by omega)]; rfl
 rw[key]
 induction n with
 | zero=>simp[repL,IsL]
 | succ n ih=>rw[List.replicate_succ,List.flatten_cons,repL]; exact h.append ih
theorem s_buildS {t e:TypeId} {len n:Nat} {parts:Array (Nat × Operand)} {z:List Value} (ht:P.underlying t=some (.slice e)) (hn:szT P e=some n) (hz:zeroT P e=some z)
  (hzl:z.length=n) (hpos:0 < n) (hmax:len*n≤2 ^ 24) (ho:o.op=.buildSlice t len parts) (rep:Rep E s a W) (h:xk E s K (.buildS e len n z parts.toList)):Res E P s K o a W:=by
 obtain⟨v,hv,hvc⟩:=run_zero hz W
 simp only[xk] at h
 split at h
 case h_2=>exact h.elim
 rename_i l' hf
 rw[xfillS_eq] at hf
 have hL:=repL_is s.H (IsL.svc (H:=s.H) z) len
 obtain⟨out,ho',hO⟩:=zj2m (place:=fun i=>some (i*n,n)) rep parts.toList _ _ _ l' hL hf (by simp) (fun j q p e1 e2=>by
  simp at e2
  obtain⟨x,y,hx,rfl⟩:=e2
  simp[hx] at e1; subst e1; simp)
 obtain⟨hx,hh⟩:=zj6w rep (t:=e) hO
 refine⟨.slice (some ⟨W.heap.size,0,none⟩) len len,W.alloc (.cells out.toList.toArray e),_,_,.inl ?_,h W.heap.size,?_,hx,hh⟩
 ·have e1:(parts.map fun (i,x)=>(i,a.eval x)).toList=parts.toList.map fun q=>(q.1,a.eval q.2):=by simp
  have hmax':¬ len*n > 2 ^ 24:=by omega
  rcases Nat.eq_zero_or_pos (len*n) with h0 | h0
  ·subst hzl
   have hl0:len=0:=by
    rcases Nat.mul_eq_zero.1 h0 with h1 | h1
    ·exact h1
    ·omega
   subst hl0
   simp only[Array.toArray_toList,Nat.zero_mul,Array.range_zero',List.map_toArray,List.map_nil] at ho'
   simp only[execOp,ho,Instr.buildSlice,Sem.run_bind,Sem.run_pure,Result.andThen_ok,run_underlying ht,zj0d hn,hmax',if_false,Nat.zero_mul,if_true,e1,Array.range_zero',List.map_toArray,List.map_nil]
   simp only[Sem.run_bind,Sem.run_pure,Result.andThen_ok,ho',newRow,run_newObj,Sem.run_map,Array.toArray_toList]
   rfl
  ·have h0':¬ len*n=0:=by omega
   subst hzl
   simp only[Array.toArray_toList] at ho'
   simp only[execOp,ho,Instr.buildSlice,Sem.run_bind,Sem.run_pure,Result.andThen_ok,run_underlying ht,zj0d hn,hmax',if_false,h0',hv,hvc,e1,List.size_toArray]
   simp only[Sem.run_bind,Sem.run_pure,Result.andThen_ok,hv,hvc,List.size_toArray,ho',newRow,run_newObj,Sem.run_map,Array.toArray_toList]
   rfl
 ·simp only[Is]; exact⟨_,blkNew _ _ _ _,rfl⟩
end
end Go.Sx
