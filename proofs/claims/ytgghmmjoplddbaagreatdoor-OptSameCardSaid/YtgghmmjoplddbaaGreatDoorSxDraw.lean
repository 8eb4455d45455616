/- The engine, part 8: a region that draws its order is walked in one order. -/
import Derived.Test.YtgghmmjoplddbaaGreatDoorSxRun
set_option linter.unusedSimpArgs false
set_option linter.unusedVariables false
set_option linter.unnecessarySimpa false
namespace Go.Sx
section
variable {r:Option Nat} {P:Program} {ops:Array Oper} {Q:Post}
def zj0e (Q:Post):Prop:=∀ c a w,¬ Q (.panic c) a w
def GivesAt (P:Program) (ops:Array Oper) (o:Oper) (v:Value) (a:Act) (w:World):Prop :=
 (Region.wanted o (yielded ops a.tmps)=true∧∀ W2,Grow w W2→(execOp a.eval o).run P W2=.ok (.value v) W2)∨(Region.wanted o (yielded ops a.tmps)=false∧v=undef)
def Gives (P:Program) (ops:Array Oper) (o:Oper) (v:Value) (a:Act):Prop :=
 (Region.wanted o (yielded ops a.tmps)=true∧∀ w:World,(execOp a.eval o).run P w=.ok (.value v) w)∨(Region.wanted o (yielded ops a.tmps)=false∧v=undef)
def notSel:Op→Bool
 | .select .. | .defer _=>false
 | _=>true
theorem zj17 {op:Op} (h:notSel op=true):(∀ cs b,op ≠ .select cs b)∧∀ c,op ≠ .defer c :=
 ⟨fun cs b e=>by subst e; simp[notSel] at h,fun c e=>by subst e; simp[notSel] at h⟩
theorem Gives.step {o:Oper} {v:Value} {a:Act} {w:World} {K:Act→World→Prop} (hc:cl P o=0) (h:Gives P ops o v a) (hk:K (a.put o.dst v) w):stepS r P ops Q o K a w:=by
 unfold stepS
 rcases h with⟨hw,hv⟩ | ⟨hw,rfl⟩
 ·rw[if_pos hw,hc]; exact⟨v,hv,hk⟩
 ·rw[if_neg (by simp[hw])]; exact hk
theorem GivesAt.step {o:Oper} {v:Value} {a:Act} {w:World} {K:Act→World→Prop} (hc:cl P o=1) (h:GivesAt P ops o v a w) (hk:K (a.put o.dst v) w):stepS r P ops Q o K a w:=by
 unfold stepS
 rcases h with⟨hw,hv⟩ | ⟨hw,rfl⟩
 ·rw[if_pos hw,hc]; exact⟨v,hv,hk⟩
 ·rw[if_neg (by simp[hw])]; exact hk
theorem Gives.of_step {o:Oper} {a:Act} {w:World} {K:Act→World→Prop} (hc:cl P o=0) (h:stepS r P ops Q o K a w):∃ v,Gives P ops o v a∧K (a.put o.dst v) w:=by
 unfold stepS at h
 split at h
 ·rename_i hw; rw[hc] at h; obtain⟨v,h1,h2⟩:=h; exact⟨v,.inl ⟨hw,h1⟩,h2⟩
 ·rename_i hw; exact⟨undef,.inr ⟨by simpa using hw,rfl⟩,h⟩
theorem GivesAt.of_step {o:Oper} {a:Act} {w:World} {K:Act→World→Prop} (hc:cl P o=1) (h:stepS r P ops Q o K a w):∃ v,GivesAt P ops o v a w∧K (a.put o.dst v) w:=by
 unfold stepS at h
 split at h
 ·rename_i hw; rw[hc] at h; obtain⟨v,h1,h2⟩:=h; exact⟨v,.inl ⟨hw,h1⟩,h2⟩
 ·rename_i hw; exact⟨undef,.inr ⟨by simpa using hw,rfl⟩,h⟩
theorem Gives.put {x:Oper} {v:Value} {a:Act} (hs:∀ cs b,x.op ≠ .select cs b) (h:Gives P ops x v a) {d:Option Tmp} {u:Value} (hd:∀ t,d=some t→t ∉ x.looksAt ops):Gives P ops x v (a.put d u):=by
 unfold Gives at *
 rw[execOp_put x hs a d u hd,wanted_put x a d u hd]; exact h
theorem GivesAt.put {x:Oper} {v:Value} {a:Act} {w:World} (hs:∀ cs b,x.op ≠ .select cs b) (h:GivesAt P ops x v a w) {d:Option Tmp} {u:Value} (hd:∀ t,d=some t→t ∉ x.looksAt ops):GivesAt P ops x v (a.put d u) w:=by
 unfold GivesAt at *
 rw[execOp_put x hs a d u hd,wanted_put x a d u hd]; exact h
theorem Gives.of_put {x:Oper} {v:Value} {a:Act} (hs:∀ cs b,x.op ≠ .select cs b) {d:Option Tmp} {u:Value} (hd:∀ t,d=some t→t ∉ x.looksAt ops) (h:Gives P ops x v (a.put d u)):Gives P ops x v a:=by
 unfold Gives at *
 rw[execOp_put x hs a d u hd,wanted_put x a d u hd] at h; exact h
theorem GivesAt.of_put {x:Oper} {v:Value} {a:Act} {w:World} (hs:∀ cs b,x.op ≠ .select cs b) {d:Option Tmp} {u:Value} (hd:∀ t,d=some t→t ∉ x.looksAt ops) (h:GivesAt P ops x v (a.put d u) w):GivesAt P ops x v a w:=by
 unfold GivesAt at *
 rw[execOp_put x hs a d u hd,wanted_put x a d u hd] at h; exact h
theorem comm_pure (hQ:zj0e Q) {x y:Oper} {K:Act→World→Prop} {a:Act} {w:World} (hx:cl P x=0) (hap:x.apart ops y=true) (nx:notSel x.op=true) (ny:notSel y.op=true)
  (h:stepS r P ops Q x (stepS r P ops Q y K) a w):stepS r P ops Q y (stepS r P ops Q x K) a w:=by
 obtain⟨h1,h2,h3⟩:=Oper.apart_spec hap
 obtain⟨sx,dx⟩:=zj17 nx
 obtain⟨sy,dy⟩:=zj17 ny
 obtain⟨v,hv,h⟩:=Gives.of_step hx h
 have fin:∀ u w',K ((a.put x.dst v).put y.dst u) w'→stepS r P ops Q x K (a.put y.dst u) w':=fun u w' hk =>
  (hv.put sx h3).step hx (by rw[← Act.put_comm a v u h2]; exact hk)
 have ee:=execOp_put (ops:=ops) y sy a x.dst v h1
 have ew:=wanted_put y a x.dst v h1
 unfold stepS at h
 rw[ew] at h
 show stepS r P ops Q y (stepS r P ops Q x K) a w
 rw[stepS]
 split at h
 ·rename_i hw
  rw[if_pos hw]
  split at h
  ·obtain⟨u,hu,hk⟩:=h; rw[ee] at hu; exact⟨u,hu,fin u w hk⟩
  ·obtain⟨u,hu,hk⟩:=h; rw[ee] at hu; exact⟨u,hu,fin u w hk⟩
  ·refine⟨fun _ _=>trivial,?_⟩
   have h:=h.2
   rw[Oper.semAt_eq _ _ _ dy,ee] at h
   rw[Oper.semAt_eq _ _ _ dy]
   generalize (execOp a.eval y).run P w=res at h ⊢
   cases res with
   | ok nx w' =>
    cases nx <;> simp only[Oper.uponIn] at h ⊢
    case value u=>exact fin u w' h
    case skip=>exact fin undef w' h
    case defer d =>
     have hv':Gives P ops x v ({ a with defers:=d :: a.defers }):=hv
     refine (hv'.put sx h3).step hx ?_
     rw[← Act.put_comm _ v undef h2,← Act.put_defers]; exact h
    case enter f args =>
     refine⟨h.1,CallsIn.mono h.2 fun e w'' he=>?_⟩
     cases e with
     | returned u=>exact fin u w'' he
     | panicked c=>exact (hQ _ _ _ he).elim
     | outgrown=>exact he
    case row row args=>exact⟨h.1,RowsIn.mono h.2 fun u w'' he=>fin u w'' he⟩
    case round l f tmps assign body =>
     refine⟨h.1,RoundIn.mono h.2 fun e w'' he=>?_⟩
     cases e with
     | returned u=>exact fin u w'' he
     | panicked c=>exact (hQ _ _ _ he).elim
     | outgrown=>exact he
   | halt hh w' =>
    cases hh <;> simp only[Oper.uponIn] at h ⊢
    case panic u=>exact (hQ _ _ _ h).elim
 ·rename_i hw
  rw[if_neg hw]
  exact fin undef w h
theorem comm_read {x y:Oper} {K:Act→World→Prop} {a:Act} {w:World} (hx:cl P x=1) (hy:cl P y≤1) (hap:x.apart ops y=true) (nx:notSel x.op=true) (ny:notSel y.op=true)
  (h:stepS r P ops Q x (stepS r P ops Q y K) a w):stepS r P ops Q y (stepS r P ops Q x K) a w:=by
 obtain⟨h1,h2,h3⟩:=Oper.apart_spec hap
 obtain⟨sx,dx⟩:=zj17 nx
 obtain⟨sy,dy⟩:=zj17 ny
 obtain⟨v,hv,h⟩:=GivesAt.of_step hx h
 have fin:∀ u,K ((a.put x.dst v).put y.dst u) w→stepS r P ops Q x K (a.put y.dst u) w:=fun u hk =>
  (hv.put sx h3).step hx (by rw[← Act.put_comm a v u h2]; exact hk)
 rcases Nat.lt_or_ge (cl P y) 1 with h0 | h0
 ·have hc:cl P y=0:=by omega
  obtain⟨u,hu,hk⟩:=Gives.of_step hc h
  exact (hu.of_put sy h1).step hc (fin u hk)
 ·have hc:cl P y=1:=by omega
  obtain⟨u,hu,hk⟩:=GivesAt.of_step hc h
  exact (hu.of_put sy h1).step hc (fin u hk)
def zj4g:Op→Bool
 | .alloc _ | .box _ _ | .buildSlice _ _ _=>true
 | .makeMap _ none=>true
 | _=>false
theorem Grow.push (w:World) (o:Obj):Grow w (w.alloc o):=⟨by simp,fun j hj=>Go.RowKit.Below.heap_alloc w o j hj⟩
def Lays {α:Type} (P:Program) (s:Sem α):Prop:=∀ w x w',s.run P w=.ok x w'→Grow w w'
theorem Lays.pure {α:Type} (x:α):Lays P (Pure.pure x:Sem α):=fun w y w' h=>by
 simp only[Sem.run_pure,Result.ok.injEq] at h; rw[← h.2]; exact Grow.refl w
theorem Lays.bind {α β:Type} {s:Sem α} {k:α→Sem β} (h1:Lays P s) (h2:∀ x,Lays P (k x)):Lays P (s >>= k):=fun w y w' h=>by
 rw[Sem.run_bind] at h
 cases hs:s.run P w with
 | halt e w1=>rw[hs] at h; cases h
 | ok x w1=>rw[hs,Result.andThen_ok] at h; exact (h1 w x w1 hs).trans (h2 x w1 y w' h)
theorem Lays.stuck {α:Type} (x:String):Lays P (Go.stuck x:Sem α):=fun w y w' h=>by cases h
theorem Lays.unsup {α:Type} (x:Unsupported):Lays P (Go.unsupported x:Sem α):=fun w y w' h=>by cases h
theorem Lays.newObj (o:Obj):Lays P (Go.newObj o):=fun w y w' h=>by
 rw[run_newObj_alloc] at h; injection h with _ h; rw[← h]; exact Grow.push w o
theorem Lays.program:Lays P Go.program:=fun w y w' h=>by
 rw[run_program] at h; injection h with _ h; rw[← h]; exact Grow.refl w
theorem Lays.underlying (t:TypeId):Lays P (Go.underlying t):=.bind .program fun p=>by
 split
 ·exact .pure _
 ·exact .stuck _
theorem Lays.typeInfo (t:TypeId):Lays P (Go.typeInfo t):=.bind .program fun p=>by
 split
 ·exact .pure _
 ·exact .stuck _
theorem Lays.zeroValue (t:TypeId):Lays P (Go.zeroValue t):=.bind (.typeInfo t) fun p=>by
 split
 ·exact .pure _
 ·exact .unsup _
theorem Lays.sizeOf (t:TypeId):Lays P (Go.sizeOf t):=.bind (.typeInfo t) fun p=>.pure _
theorem Lays.newRow (t:TypeId) (c:Array Value):Lays P (Go.newRow t c):=.bind (.newObj _) fun _=>.pure _
theorem Lays.newVar (t:TypeId) (v:Value):Lays P (Go.newVar t v):=.newRow _ _
theorem Lays.alloc (t:TypeId):Lays P (Instr.alloc t true (.tuple #[])):=.bind (.zeroValue t) fun _=>by
 split
 ·rename_i h _; cases h
 ·exact .bind (.newVar _ _) fun _=>.pure _
theorem Lays.box (t:TypeId) (v:Value):Lays P (Instr.box t v):=.bind (.newVar _ _) fun _=>.pure _
theorem Lays.buildSlice (t:TypeId) (n:Nat) (ps:Array (Nat × Value)):Lays P (Instr.buildSlice t n ps):=by
 unfold Instr.buildSlice
 refine .bind (.underlying t) fun d=>?_
 dsimp only
 repeat' (first | exact Lays.stuck _ | exact Lays.unsup _ | exact Lays.pure _ | exact Lays.newRow _ _ | exact Lays.sizeOf _ | exact Lays.zeroValue _ | refine Lays.bind ?_ fun _=>?_ | split | dsimp only)
theorem Lays.makeMap (t:TypeId):Lays P (Instr.makeMap t none):=.bind (.newObj _) fun _=>.pure _
theorem growsOp_run {o:Oper} (hg:zj4g o.op=true) {ρ:Operand→Value} {w w':World} {nx:Next} (h:(execOp ρ o).run P w=.ok nx w'):(∃ u,nx=.value u)∧Grow w w':=by
 have key:∀ s:Sem Value,Lays P s→(do pure (.value (← s)):Sem Next).run P w=.ok nx w'→(∃ u,nx=.value u)∧Grow w w':=by
  intro s hs h
  simp only[Sem.run_bind] at h
  cases hr:s.run P w with
  | halt e w1=>rw[hr] at h; cases h
  | ok x w1 =>
   rw[hr,Result.andThen_ok,Sem.run_pure] at h
   injection h with h1 h2
   rw[← h2]; exact⟨⟨x,h1.symm⟩,hs w x w1 hr⟩
 unfold zj4g at hg
 unfold execOp at h
 split at hg
 ·rename_i t ho; rw[ho] at h; exact key _ (.alloc _) h
 ·rename_i t v ho; rw[ho] at h; exact key _ (.box _ _) h
 ·rename_i t n ps ho; rw[ho] at h; exact key _ (.buildSlice _ _ _) h
 ·rename_i t ho; rw[ho] at h; exact key _ (.makeMap _) h
 ·cases hg
theorem comm_grow (hQ:zj0e Q) {x y:Oper} {K:Act→World→Prop} {a:Act} {w:World} (hx:cl P x=1) (hy:zj4g y.op=true) (hy2:cl P y=2) (hap:x.apart ops y=true) (nx:notSel x.op=true) (ny:notSel y.op=true)
  (h:stepS r P ops Q x (stepS r P ops Q y K) a w):stepS r P ops Q y (stepS r P ops Q x K) a w:=by
 obtain⟨h1,h2,h3⟩:=Oper.apart_spec hap
 obtain⟨sx,dx⟩:=zj17 nx
 obtain⟨sy,dy⟩:=zj17 ny
 obtain⟨v,hv,h⟩:=GivesAt.of_step hx h
 have grow:∀ w',Grow w w'→GivesAt P ops x v a w':=fun w' g=>hv.imp (fun⟨p,q⟩=>⟨p,fun W2 g2=>q W2 (g.trans g2)⟩) id
 have fin:∀ u w',Grow w w'→K ((a.put x.dst v).put y.dst u) w'→stepS r P ops Q x K (a.put y.dst u) w':=fun u w' g hk =>
  ((grow w' g).put sx h3).step hx (by rw[← Act.put_comm a v u h2]; exact hk)
 have ee:=execOp_put (ops:=ops) y sy a x.dst v h1
 have ew:=wanted_put y a x.dst v h1
 unfold stepS at h
 rw[ew] at h
 show stepS r P ops Q y (stepS r P ops Q x K) a w
 rw[stepS]
 split at h
 ·rename_i hw
  rw[if_pos hw]
  simp only[hy2] at h ⊢
  refine⟨fun _ _=>trivial,?_⟩
  have h:=h.2
  rw[Oper.semAt_eq _ _ _ dy,ee] at h
  rw[Oper.semAt_eq _ _ _ dy]
  have hg:=fun nx w'=>growsOp_run (P:=P) (ρ:=a.eval) (w:=w) (w':=w') (nx:=nx) hy
  generalize (execOp a.eval y).run P w=res at h hg ⊢
  cases res with
  | ok nx w' =>
   obtain⟨⟨u,rfl⟩,g⟩:=hg nx w' rfl
   simp only[Oper.uponIn] at h ⊢
   exact fin u w' g h
  | halt hh w' =>
   cases hh <;> simp only[Oper.uponIn] at h ⊢
   case panic u=>exact (hQ _ _ _ h).elim
 ·rename_i hw
  rw[if_neg hw]
  exact fin undef w (Grow.refl w) h
def okPair (P:Program) (ops:Array Oper) (i j:Nat):Bool :=
 match ops[i]?,ops[j]? with
 | some x,some y=>x.apart ops y && notSel x.op && notSel y.op && (cl P x == 0 || (cl P x == 1 && (decide (cl P y≤1) || (zj4g y.op && cl P y == 2))))
 | _,_=>false
def apt (ops:Array Oper) (x y:Oper):Bool:=match y.dst with
 | some d=>!(x.looksAt ops).contains d && x.dst != some d
 | none=>true
theorem apt_spec {x y:Oper} (h:apt ops x y=true):(∀ d,y.dst=some d→d ∉ x.looksAt ops)∧∀ d,y.dst=some d→x.dst ≠ some d:=by
 refine⟨fun d hd=>?_,fun d hd=>?_⟩ <;> simp[apt,hd] at h
 ·exact h.1
 ·exact h.2
theorem getD_put {a:Act} {e:Option Tmp} {v:Value} {d:Nat} (h:e ≠ some d):(a.put e v).tmps.getD d undef=a.tmps.getD d undef:=by
 cases e with
 | none=>rfl
 | some e =>
  have hne:e ≠ d:=fun q=>h (by rw[q])
  simp[Act.put,Array.getD_eq_getD_getElem?,Array.getElem?_setIfInBounds_ne hne]
theorem StillAt.of_put {x y:Oper} {v:Value} {a:Act} {w:World} (hs:∀ cs b,x.op ≠ .select cs b) (ha:apt ops x y=true) (h:StillAt P ops x (a.put y.dst v) w):StillAt P ops x a w:=by
 obtain⟨h1,h2⟩:=apt_spec ha
 unfold StillAt at *
 rw[execOp_put x hs a y.dst v h1,wanted_put x a y.dst v h1] at h
 intro hw d hd W2 hg
 have:=h hw d hd W2 hg
 rw[getD_put (fun q=>h2 d q hd)] at this
 exact this
def Ck (P:Program) (ops:Array Oper) (fr:Nat→List Nat) (D:List Nat) (i:Nat) (a:Act) (w:World):Prop:=∀ x ∈ fr i,x ∈ D→∀ o,ops[x]? = some o→StillAt P ops o a w
def stepI (r:Option Nat) (P:Program) (ops:Array Oper) (Q:Post) (fr:Nat→List Nat) (D:List Nat) (i:Nat) (K:Act→World→Prop) (a:Act) (w:World):Prop :=
 match ops[i]? with
 | none=>K a w
 | some o=>stepS r P ops Q o (fun a w=>Ck P ops fr D i a w∧K a w) a w
def wpX (r:Option Nat) (P:Program) (ops:Array Oper) (Q:Post) (fr:Nat→List Nat):List Nat→List Nat→Act→World→Prop
 | _,[]=>Q .normal
 | D,i :: l=>stepI r P ops Q fr D i (wpX r P ops Q fr (i :: D) l)
def okStill (P:Program) (ops:Array Oper) (fr:Nat→List Nat) (i j:Nat):Bool :=
 match ops[i]?,ops[j]? with
 | some x,some y=>x.apart ops y && notSel x.op && notSel y.op && cl P x == 1 && cl P y == 2 && (fr j).contains i && (match x.dst with | some d=>!(x.looksAt ops).contains d | none=>false)
 | _,_=>false
def okP (P:Program) (ops:Array Oper) (fr:Nat→List Nat) (i j:Nat):Bool:=okPair P ops i j || okStill P ops fr i j
variable {fr:Nat→List Nat} {D:List Nat}
theorem stepS_out {x:Oper} {K2 K:Act→World→Prop} {C:Act→World→Prop} (hc:cl P x≤1) (hC:∀ b v w,C (b.put x.dst v) w→C b w) (hK:∀ b w,K2 b w→C b w∧K b w) {b:Act} {w:World} (h:stepS r P ops Q x K2 b w):C b w∧stepS r P ops Q x K b w:=by
 refine⟨?_,zj0n (fun a w k=>(hK a w k).2) h⟩
 rcases Nat.lt_or_ge (cl P x) 1 with h0 | h0
 ·obtain⟨u,_,hk⟩:=Gives.of_step (by omega) h
  exact hC _ _ _ (hK _ _ hk).1
 ·obtain⟨u,_,hk⟩:=GivesAt.of_step (by omega) h
  exact hC _ _ _ (hK _ _ hk).1
theorem comm_still (hQ:zj0e Q) {x y:Oper} {K2 C K:Act→World→Prop} {a:Act} {w:World} (hx:cl P x=1) (hy:cl P y=2) (hap:x.apart ops y=true) (nx:notSel x.op=true) (ny:notSel y.op=true)
  {d:Nat} (hd:x.dst=some d) (hself:d ∉ x.looksAt ops) (hC:∀ b v w,C (b.put x.dst v) w→C b w) (hK:∀ b w,K2 b w→StillAt P ops x b w∧C b w∧K b w)
  (h:stepS r P ops Q x (stepS r P ops Q y K2) a w):stepS r P ops Q y (fun b w=>C b w∧stepS r P ops Q x K b w) a w:=by
 obtain⟨h1,h2,h3⟩:=Oper.apart_spec hap
 obtain⟨sx,dx⟩:=zj17 nx
 obtain⟨sy,dy⟩:=zj17 ny
 obtain⟨v,hv,h⟩:=GivesAt.of_step hx h
 have hds:∀ t,x.dst=some t→t ∉ x.looksAt ops:=fun t ht=>by rw[hd] at ht; injection ht with ht; subst ht; exact hself
 have fin:∀ (a0:Act) u w',GivesAt P ops x v a0 w→K2 ((a0.put x.dst v).put y.dst u) w'→C (a0.put y.dst u) w'∧stepS r P ops Q x K (a0.put y.dst u) w':=by
  intro a0 u w' hv0 hk
  rw[Act.put_comm a0 v u h2] at hk
  obtain⟨k1,k2,k3⟩:=hK _ _ hk
  refine⟨hC _ _ _ k2,?_⟩
  have hv1:GivesAt P ops x v (a0.put y.dst u) w:=hv0.put sx h3
  generalize a0.put y.dst u=b at *
  unfold stepS
  rcases hv1 with⟨hw,_⟩ | ⟨hw,rfl⟩
  ·rw[if_pos hw,hx]
   unfold StillAt at k1
   rw[execOp_put x sx b x.dst v hds,wanted_put x b x.dst v hds] at k1
   refine⟨_,fun W2 hg=>k1 hw d hd W2 hg,?_⟩
   have:b.put x.dst ((b.put x.dst v).tmps.getD d undef)=b.put x.dst v:=by
    rw[hd]
    by_cases hlt:d < b.tmps.size
    ·simp[Act.put,hlt]
    ·simp[Act.put,Array.setIfInBounds,hlt]
   rw[this]; exact k3
  ·rw[if_neg (by simp[hw])]; exact k3
 have ee:=execOp_put (ops:=ops) y sy a x.dst v h1
 have ew:=wanted_put y a x.dst v h1
 unfold stepS at h
 rw[ew] at h
 rw[stepS]
 split at h
 ·rename_i hw
  rw[if_pos hw]
  simp only[hy] at h ⊢
  refine⟨fun _ _=>trivial,?_⟩
  have h:=h.2
  rw[Oper.semAt_eq _ _ _ dy,ee] at h
  rw[Oper.semAt_eq _ _ _ dy]
  generalize (execOp a.eval y).run P w=res at h ⊢
  cases res with
  | ok nx w' =>
   cases nx <;> simp only[Oper.uponIn] at h ⊢
   case value u=>exact fin a u w' hv h
   case skip=>exact fin a undef w' hv h
   case defer dd =>
    have hv':GivesAt P ops x v ({ a with defers:=dd :: a.defers }) w:=hv
    refine fin { a with defers:=dd :: a.defers } undef w' hv' ?_
    have e:({ a with defers:=dd :: a.defers }:Act).put x.dst v={ a.put x.dst v with defers:=dd :: (a.put x.dst v).defers }:=by cases hq:x.dst <;> rfl
    rw[e]; exact h
   case enter f args =>
    refine⟨h.1,CallsIn.mono h.2 fun e w'' he=>?_⟩
    cases e with
    | returned u=>exact fin a u w'' hv he
    | panicked c=>exact (hQ _ _ _ he).elim
    | outgrown=>exact he
   case row row args=>exact⟨h.1,RowsIn.mono h.2 fun u w'' he=>fin a u w'' hv he⟩
   case round l f tmps assign body =>
    refine⟨h.1,RoundIn.mono h.2 fun e w'' he=>?_⟩
    cases e with
    | returned u=>exact fin a u w'' hv he
    | panicked c=>exact (hQ _ _ _ he).elim
    | outgrown=>exact he
  | halt hh w' =>
   cases hh <;> simp only[Oper.uponIn] at h ⊢
   case panic u=>exact (hQ _ _ _ h).elim
 ·rename_i hw
  rw[if_neg hw]
  exact fin a undef w hv h
def Apts (ops:Array Oper) (x y:Nat):Prop:=∀ ox oy,ops[x]? = some ox→ops[y]? = some oy→apt ops ox oy=true∧notSel ox.op=true
theorem zj0v {i:Nat} {K K':Act→World→Prop} (hk:∀ a w,K a w→K' a w) {a:Act} {w:World} (h:stepI r P ops Q fr D i K a w):stepI r P ops Q fr D i K' a w:=by
 unfold stepI at *
 split
 ·rename_i ho; rw[ho] at h; exact hk _ _ h
 ·rename_i o ho; rw[ho] at h; exact zj0n (fun a w k=>⟨k.1,hk _ _ k.2⟩) h
theorem stepI_D {i:Nat} {D':List Nat} {K:Act→World→Prop} (hD:∀ x,x ∈ D'→x ∈ D) {a:Act} {w:World} (h:stepI r P ops Q fr D i K a w):stepI r P ops Q fr D' i K a w:=by
 unfold stepI at *
 split
 ·rename_i ho; rw[ho] at h; exact h
 ·rename_i o ho; rw[ho] at h; exact zj0n (fun a w k=>⟨fun x hx hd=>k.1 x hx (hD x hd),k.2⟩) h
theorem wpX_D:∀ (l:List Nat) {D D':List Nat},(∀ x,x ∈ D'→x ∈ D)→∀ a w,wpX r P ops Q fr D l a w→wpX r P ops Q fr D' l a w
 | [],_,_,_,_,_,h=>h
 | i :: l,D,D',hD,a,w,h=>stepI_D hD (zj0v (wpX_D l fun x hx=>by
   rcases List.mem_cons.1 hx with rfl | hx
   ·exact .head _
   ·exact .tail _ (hD x hx)) h)
theorem comm_pair (hQ:zj0e Q) {i j:Nat} (h:okP P ops fr i j=true) (hfi:∀ o,ops[i]? = some o→cl P o≤1→fr i=[]) (hD:∀ x ∈ fr j,x ∈ D→Apts ops x i) {K:Act→World→Prop} {a:Act} {w:World}
  (hk:stepI r P ops Q fr D i (stepI r P ops Q fr (i :: D) j K) a w):stepI r P ops Q fr D j (stepI r P ops Q fr (j :: D) i K) a w:=by
 unfold okP okPair okStill at h
 cases hx:ops[i]? with
 | none=>simp[hx] at h
 | some x =>
 cases hy:ops[j]? with
 | none=>simp[hx,hy] at h
 | some y =>
 simp only[hx,hy,Bool.and_eq_true,Bool.or_eq_true,beq_iff_eq,decide_eq_true_eq] at h
 have hcx:cl P x≤1:=by rcases h with h | h <;> omega
 have hf:=hfi x hx hcx
 unfold stepI at hk ⊢
 simp only[hx,hy] at hk ⊢
 have hk:stepS r P ops Q x (stepS r P ops Q y fun a w=>Ck P ops fr (i :: D) j a w∧K a w) a w:=zj0n (fun a w k=>k.2) hk
 have hC:∀ b v w,Ck P ops fr D j (b.put x.dst v) w→Ck P ops fr D j b w:=fun b v w k q hq hqD o ho=>by
  obtain⟨e1,e2⟩:=hD q hq hqD o x ho hx
  exact (k q hq hqD o ho).of_put (zj17 e2).1 e1
 have sub:∀ b w,Ck P ops fr (i :: D) j b w→Ck P ops fr D j b w:=fun b w k q hq hqD o ho=>k q hq (.tail _ hqD) o ho
 have wrap:∀ b w,stepS r P ops Q x K b w→stepS r P ops Q x (fun a w=>Ck P ops fr (j :: D) i a w∧K a w) b w:=fun b w k=>zj0n (fun a w k=>⟨fun q hq=>by (rw[hf] at hq; cases hq),k⟩) k
 rcases h with h | h
 ·obtain⟨⟨⟨h1,h2⟩,h3⟩,h4⟩:=h
  have hk2:stepS r P ops Q y (stepS r P ops Q x fun a w=>Ck P ops fr (i :: D) j a w∧K a w) a w:=by
   rcases h4 with h4 | ⟨h4,h5 | ⟨h5,h6⟩⟩
   ·exact comm_pure hQ h4 h1 h2 h3 hk
   ·exact comm_read h4 h5 h1 h2 h3 hk
   ·exact comm_grow hQ h4 h5 h6 h1 h2 h3 hk
  refine zj0n (fun b w k=>?_) hk2
  obtain⟨k1,k2⟩:=stepS_out (K:=K) (C:=Ck P ops fr D j) hcx hC (fun b w k=>⟨sub b w k.1,k.2⟩) k
  exact⟨k1,wrap b w k2⟩
 ·obtain⟨⟨⟨⟨⟨⟨h1,h2⟩,h3⟩,h4⟩,h5⟩,h6⟩,h7⟩:=h
  have h6:i ∈ fr j:=by simpa using h6
  cases hd:x.dst with
  | none=>rw[hd] at h7; cases h7
  | some d =>
  rw[hd] at h7
  have hself:d ∉ x.looksAt ops:=by simpa using h7
  have:=comm_still hQ (C:=Ck P ops fr D j) (K:=K) h4 h5 h1 h2 h3 hd hself hC (fun b w k=>⟨k.1 i h6 (.head _) x hx,sub b w k.1,k.2⟩) hk
  exact zj0n (fun b w k=>⟨k.1,wrap b w k.2⟩) this
theorem front (hQ:zj0e Q) {i:Nat} (hfr:∀ j o,ops[j]? = some o→cl P o≤1→fr j=[]):∀ (c1 c2 D:List Nat),(∀ y ∈ c1,okP P ops fr y i=true)→(∀ p y q,c1=p++y :: q→∀ x ∈ fr i,(x ∈ D∨x ∈ p)→Apts ops x y) →
  ∀ a w,wpX r P ops Q fr D (c1++i :: c2) a w→wpX r P ops Q fr D (i :: (c1++c2)) a w
 | [],c2,D,_,_,a,w,h=>h
 | y :: c1,c2,D,hy,hA,a,w,h=>by
  have h':stepI r P ops Q fr D y (wpX r P ops Q fr (y :: D) (c1++i :: c2)) a w:=h
  have h2:=zj0v (front hQ hfr c1 c2 (y :: D) (fun z hz=>hy z (by simp[hz])) (fun p z q e x hx hm=>hA (y :: p) z q (by rw[e]; rfl) x hx (by
   rcases hm with hm | hm
   ·rcases List.mem_cons.1 hm with rfl | hm
    ·exact .inr (.head _)
    ·exact .inl hm
   ·exact .inr (.tail _ hm)))) h'
  have h3:=comm_pair hQ (hy y (by simp)) (hfr y) (fun x hx hm=>hA [] y c1 rfl x hx (.inl hm)) h2
  refine zj0v (fun a w k=>zj0v (wpX_D (c1++c2) fun x hx=>?_) k) h3
  simp only[List.mem_cons] at hx ⊢
  rcases hx with h | h | h <;> simp[h]
def depM (ops:Array Oper) (y:Nat):Nat→Nat
 | 0=>0
 | k+1=>match ops[k]? with
  | some o=>(match o.after.any (fun e=>Region.binds .any e && (e.on == y || Nat.testBit (depM ops y k) e.on)) with
   | true=>depM ops y k ||| (1 <<< k)
   | false=>depM ops y k)
  | none=>depM ops y k
def depP (ops:Array Oper):Nat→Nat→Nat→Bool
 | 0,_,_=>false
 | f+1,i,y=>match ops[i]? with
  | some o=>o.after.any (fun e=>Region.binds .any e && e.on == y) || o.after.any (fun e=>Region.binds .any e && decide (y < e.on) && depP ops f e.on y)
  | none=>false
def dep (ops:Array Oper) (f i y:Nat):Bool:=match Nat.ble f 24 with
 | true=>depP ops f i y
 | false=>Nat.testBit (depM ops y (i+1)) i
inductive DepR (ops:Array Oper) (y:Nat):Nat→Prop
 | one {i:Nat} {o:Oper} {e:_}:ops[i]? = some o→e ∈ o.after→Region.binds .any e=true→e.on=y→DepR ops y i
 | more {i:Nat} {o:Oper} {e:_}:ops[i]? = some o→e ∈ o.after→Region.binds .any e=true→DepR ops y e.on→DepR ops y i
theorem depM_R (y:Nat):∀ (k j:Nat),Nat.testBit (depM ops y k) j=true→DepR ops y j
 | 0,j,h=>by simp[depM] at h
 | k+1,j,h=>by
  unfold depM at h
  split at h
  case h_2=>exact depM_R y k j h
  rename_i o ho
  split at h
  case h_2=>exact depM_R y k j h
  rename_i hany
  rw[Nat.testBit_or,Bool.or_eq_true] at h
  rcases h with h | h
  ·exact depM_R y k j h
  ·rw[Nat.one_shiftLeft,Nat.testBit_two_pow,decide_eq_true_eq] at h
   subst h
   obtain⟨e,he,hb⟩:=Array.any_eq_true'.1 hany
   simp only[Bool.and_eq_true,Bool.or_eq_true,beq_iff_eq] at hb
   rcases hb.2 with h2 | h2
   ·exact .one ho he hb.1 h2
   ·exact .more ho he hb.1 (depM_R y k e.on h2)
theorem depP_R (y:Nat):∀ (f i:Nat),depP ops f i y=true→DepR ops y i
 | 0,i,h=>by simp[depP] at h
 | f+1,i,h=>by
  unfold depP at h
  split at h
  case h_2=>cases h
  rename_i o ho
  rw[Bool.or_eq_true] at h
  rcases h with h | h
  ·obtain⟨e,he,hb⟩:=Array.any_eq_true'.1 h
   simp only[Bool.and_eq_true,beq_iff_eq] at hb
   exact .one ho he hb.1 hb.2
  ·obtain⟨e,he,hb⟩:=Array.any_eq_true'.1 h
   simp only[Bool.and_eq_true,decide_eq_true_eq] at hb
   exact .more ho he hb.1.1 (depP_R y f e.on hb.2)
theorem dep_R {f i y:Nat} (h:dep ops f i y=true):DepR ops y i:=by
 unfold dep at h
 split at h
 ·exact depP_R y f i h
 ·exact depM_R y (i+1) i h
def Closed (ops:Array Oper) (listed:Array Bool):Prop:=∀ (k:Nat) (o:Oper),listed.getD k false=true→ops[k]? = some o→∀ e ∈ o.after,Region.binds .any e=true→listed.getD e.on false=true
theorem zj2o {listed:Array Bool} (hc:Closed ops listed) (f i y:Nat) (h:dep ops f i y=true) (hi:∀ o,ops[i]? = some o→∀ e ∈ o.after,Region.binds .any e=true→listed.getD e.on false=true):listed.getD y false=true:=by
 replace h:=dep_R h
 induction h with
 | one ho he hb hy=>rw[← hy]; exact hi _ ho _ he hb
 | more ho he hb _ ih=>exact ih fun o' ho' e' he' hb'=>hc _ o' (hi _ ho _ he hb) ho' e' he' hb'
theorem dep_lt (hback:∀ (i:Nat) (o:Oper),ops[i]? = some o→∀ e ∈ o.after,Region.binds .any e=true→e.on < i) (f i y:Nat) (h:dep ops f i y=true):y < i:=by
 replace h:=dep_R h
 induction h with
 | one ho he hb hy=>rw[← hy]; exact hback _ _ ho _ he hb
 | more ho he hb _ ih=>exact Nat.lt_trans (ih) (hback _ _ ho _ he hb)
def zj2b (P:Program) (ops:Array Oper) (fr:Nat→List Nat):List Nat→Bool
 | []=>true
 | i :: l=>l.all (fun j=>dep ops ops.size j i || okP P ops fr i j) && zj2b P ops fr l
theorem zj2h:∀ (c1:List Nat) (i:Nat) (c2:List Nat),zj2b P ops fr (c1++i :: c2)=true→∀ y ∈ c1,dep ops ops.size i y=true∨okP P ops fr y i=true
 | [],i,c2,h,y,hy=>by cases hy
 | x :: c1,i,c2,h,y,hy=>by
  simp only[List.cons_append,zj2b,Bool.and_eq_true] at h
  rcases List.mem_cons.1 hy with rfl | hy
  ·have:=List.all_eq_true.1 h.1 i (by simp)
   simpa [Bool.or_eq_true] using this
  ·exact zj2h c1 i c2 h.2 y hy
theorem zj3t:∀ (c1:List Nat) (i:Nat) (c2:List Nat),zj2b P ops fr (c1++i :: c2)=true→zj2b P ops fr (c1++c2)=true
 | [],i,c2,h=>by simp only[List.nil_append,zj2b,Bool.and_eq_true] at h; exact h.2
 | x :: c1,i,c2,h=>by
  simp only[List.cons_append,zj2b,Bool.and_eq_true] at h ⊢
  refine⟨List.all_eq_true.2 fun j hj=>List.all_eq_true.1 h.1 j ?_,zj3t c1 i c2 h.2⟩
  rcases List.mem_append.1 hj with hj | hj
  ·simp[hj]
  ·simp[hj]
theorem zj5v {listed:Array Bool} {i:Nat} (hc:Closed ops listed) (hi:∀ o,ops[i]? = some o→∀ e ∈ o.after,Region.binds .any e=true→listed.getD e.on false=true):Closed ops (listed.setIfInBounds i true):=by
 intro k o hk ho e he hb
 by_cases hik:i=k
 ·subst hik; exact getD_set_true (hi o ho e he hb)
 ·rw[getD_set_ne false hik] at hk
  exact getD_set_true (hc k o hk ho e he hb)
theorem main (hQ:zj0e Q) (hback:∀ (i:Nat) (o:Oper),ops[i]? = some o→∀ e ∈ o.after,Region.binds .any e=true→e.on < i) (hfr:∀ j o,ops[j]? = some o→cl P o≤1→fr j=[])
  (hst:∀ i,∀ x ∈ fr i,∀ y,y < ops.size→y ≠ x→dep ops ops.size x y=true∨Apts ops x y) :
  ∀ (fuel:Nat) (listed:Array Bool) (c D:List Nat),listed.size=ops.size→(∀ i,i ∈ c ↔ i < ops.size∧listed.getD i true=false)→c.Nodup→zj2b P ops fr c=true→c.length≤fuel→Closed ops listed→(∀ x ∈ D,listed.getD x false=true) →
   ∀ a w,wpX r P ops Q fr D c a w→wpAnyIn (WF r) 0 P .any ops Q fuel listed a w:=by
 have none_ready:∀ (listed:Array Bool) (c:List Nat),listed.size=ops.size→(∀ i,i ∈ c ↔ i < ops.size∧listed.getD i true=false)→Region.ready .any ops listed=[]→c=[]:=by
  intro listed c hsz hm hr
  cases c with
  | nil=>rfl
  | cons x c =>
   exfalso
   -- the least one that is not listed is ready
   have key:∀ n i,i≤n→i < ops.size→listed.getD i true=false→False:=by
    intro n
    induction n using Nat.strongRecOn with
    | _ n ih =>
     intro i hin hi hl
     have:i ∈ Region.ready .any ops listed:=by
      rw[mem_ready]
      refine⟨hl,ops[i],Array.getElem?_eq_getElem hi,fun e he hb=>?_⟩
      have hlt:=hback i _ (Array.getElem?_eq_getElem hi) e he hb
      rcases hb':listed.getD e.on true with _ | _
      ·exact (ih e.on (by omega) e.on (Nat.le_refl _) (by omega) hb').elim
      ·have hs:e.on < listed.size:=by omega
       simpa [hs] using hb'
     rw[hr] at this; cases this
   have hx:=(hm x).1 (by simp)
   exact key x x (Nat.le_refl _) hx.1 hx.2
 intro fuel
 induction fuel with
 | zero =>
  intro listed c D hsz hm _ _ hlen _ _ a w h
  have hc:c=[]:=List.eq_nil_of_length_eq_zero (by omega)
  subst hc
  refine⟨?_,h⟩
  cases hr:Region.ready .any ops listed with
  | nil=>rfl
  | cons i l =>
   have hi:i ∈ Region.ready .any ops listed:=by rw[hr]; simp
   obtain⟨h1,o,ho,_⟩:=mem_ready.1 hi
   have:i ∈ ([]:List Nat):=(hm i).2 ⟨(Array.getElem?_eq_some_iff.1 ho).1,h1⟩
   cases this
 | succ fuel ih =>
  intro listed c D hsz hm hnd hpo hlen hcl hDl a w h
  refine⟨fun hr=>?_,fun i hi=>?_⟩
  ·obtain rfl:=none_ready listed c hsz hm hr; exact h
  ·obtain⟨h1,o,ho,hall⟩:=mem_ready.1 hi
   have hic:i ∈ c:=(hm i).2 ⟨(Array.getElem?_eq_some_iff.1 ho).1,h1⟩
   obtain⟨c1,c2,rfl⟩:=List.append_of_mem hic
   have hdeps:∀ o',ops[i]? = some o'→∀ e ∈ o'.after,Region.binds .any e=true→listed.getD e.on false=true:=by
    intro o' ho'; rw[ho] at ho'; injection ho' with ho'; subst ho'; exact hall
   have hfront:∀ y ∈ c1,okP P ops fr y i=true:=by
    intro y hy
    rcases zj2h c1 i c2 hpo y hy with hd | hp
    ·have hl:=zj2o hcl _ i y hd hdeps
     have hy':=((hm y).1 (by simp[hy])).2
     exfalso
     have hys:y < listed.size:=by rw[hsz]; exact ((hm y).1 (by simp[hy])).1
     simp[hys] at hl hy'
     rw[hl] at hy'; cases hy'
    ·exact hp
   have hApts:∀ p y q,c1=p++y :: q→∀ x ∈ fr i,(x ∈ D∨x ∈ p)→Apts ops x y:=by
    intro p y q e x hx hm'
    have hyc:y ∈ c1:=by rw[e]; simp
    obtain⟨hys,hyl⟩:=(hm y).1 (by simp[hyc])
    have hys':y < listed.size:=by rw[hsz]; exact hys
    rcases hm' with hxD | hxp
    ·have hxl:=hDl x hxD
     have hne:y ≠ x:=by rintro rfl; simp[hys'] at hxl hyl; rw[hxl] at hyl; cases hyl
     rcases hst i x hx y hys hne with hd | hA
     ·have hl:=zj2o hcl _ x y hd (fun o' ho' e' he' hb'=>hcl x o' hxl ho' e' he' hb')
      exfalso
      simp[hys'] at hl hyl
      rw[hl] at hyl; cases hyl
     ·exact hA
    ·have hnd1:=(List.nodup_append.1 hnd).1
     rw[e] at hnd1
     have hne:y ≠ x:=fun q'=>(List.nodup_append.1 hnd1).2.2 x hxp y (by simp) q'.symm
     rcases hst i x hx y hys hne with hd | hA
     ·have hpo':=hpo
      rw[e,List.append_assoc] at hpo'
      rcases zj2h p y (q++i :: c2) hpo' x hxp with hd2 | hp
      ·have l1:=dep_lt hback _ _ _ hd
       have l2:=dep_lt hback _ _ _ hd2
       omega
      ·intro ox oy hox hoy
       unfold okP okPair okStill at hp
       simp only[hox,hoy,Bool.and_eq_true,Bool.or_eq_true] at hp
       have hap:ox.apart ops oy=true∧notSel ox.op=true:=by
        rcases hp with hp | hp
        ·exact⟨hp.1.1.1,hp.1.1.2⟩
        ·exact⟨hp.1.1.1.1.1.1,hp.1.1.1.1.1.2⟩
       obtain⟨q1,q2,q3⟩:=Oper.apart_spec hap.1
       refine⟨?_,hap.2⟩
       unfold apt
       cases hd:oy.dst with
       | none=>rfl
       | some d =>
        have n1:=q3 d hd
        have n2:ox.dst ≠ some d:=fun q'=>q2 d q' hd
        simp[n1,n2]
     ·exact hA
   have h2:=front hQ hfr c1 c2 D hfront hApts a w h
   have hnd':(c1++c2).Nodup∧i ∉ c1++c2:=by
    have:=List.nodup_append.1 hnd
    obtain⟨n1,n2,n3⟩:=this
    rw[List.nodup_cons] at n2
    refine⟨List.nodup_append.2 ⟨n1,n2.2,fun x hx y hy=>n3 x hx y (by simp[hy])⟩,?_⟩
    intro hmem
    rcases List.mem_append.1 hmem with hmem | hmem
    ·exact n3 i hmem i (by simp) rfl
    ·exact n2.1 hmem
   have hlt:i < ops.size:=(Array.getElem?_eq_some_iff.1 ho).1
   have h3:stepI r P ops Q fr D i (wpAnyIn (WF r) 0 P .any ops Q fuel (listed.setIfInBounds i true)) a w:=by
    have hDl':∀ x ∈ i :: D,(listed.setIfInBounds i true).getD x false=true:=by
     intro x hx
     by_cases hij:i=x
     ·subst hij; simp[hsz,hlt]
     ·rw[getD_set_ne false hij]
      rcases List.mem_cons.1 hx with h | h
      ·exact absurd h.symm hij
      ·exact hDl x h
    refine zj0v (fun a' w' hk=>ih (listed.setIfInBounds i true) (c1++c2) (i :: D) (by simp[hsz]) ?_ hnd'.1 (zj3t c1 i c2 hpo) (by simp at hlen ⊢; omega) (zj5v hcl hdeps) hDl' a' w' hk) h2
    intro j
    by_cases hij:i=j
    ·subst hij
     constructor
     ·intro hj; exact absurd hj hnd'.2
     ·rintro ⟨_,hj⟩; simp[hsz,hlt] at hj
    ·rw[getD_set_ne true hij,← hm j]
     simp only[List.mem_append,List.mem_cons]
     constructor
     ·rintro (h | h)
      ·exact .inl h
      ·exact .inr (.inr h)
     ·rintro (h | h | h)
      ·exact .inl h
      ·exact absurd h.symm hij
      ·exact .inr h
   unfold stepI at h3
   simp only[ho] at h3
   replace h3:=zj0n (fun a w k=>k.2) h3
   unfold wpOpIn
   simp only[ho]
   -- from 'stepS' to the model's own step
   unfold stepS at h3
   split at h3
   ·rename_i hw
    rw[if_pos hw]
    split at h3
    ·rename_i hcl0
     obtain⟨v,hv,hk⟩:=h3
     refine⟨fun _ _=>trivial,?_⟩
     rw[Oper.semAt_eq _ _ _ (zj1k (P:=P) (by omega)),hv w]; exact hk
    ·rename_i hcl1
     obtain⟨v,hv,hk⟩:=h3
     refine⟨fun _ _=>trivial,?_⟩
     rw[Oper.semAt_eq _ _ _ (zj1k (P:=P) (by omega)),hv w (Grow.refl w)]; exact hk
    ·exact h3
   ·rename_i hw
    rw[if_neg hw]; exact⟨fun _ _=>trivial,h3⟩
def nextOf (P:Program) (ops:Array Oper) (left done:List Nat):Option Nat :=
 let ready:=left.filter fun i=>match ops[i]? with | some o=>o.after.all fun e=>!Region.binds .any e || done.contains e.on | none=>false
 let at_ (k:Nat):=ready.find? fun i=>match ops[i]? with | some o=>cl P o == k | none=>false
 match at_ 0 with
 | some i=>some i
 | none=>match at_ 1 with
  | some i=>some i
  | none=>ready.head?
def greedy (P:Program) (ops:Array Oper):Nat→List Nat→List Nat→List Nat
 | 0,_,done=>done.reverse
 | f+1,left,done=>match nextOf P ops left done with
  | some i=>greedy P ops f (left.filter (· != i)) (i :: done)
  | none=>done.reverse
def nodupB:List Nat→Bool
 | []=>true
 | x :: l=>!l.contains x && nodupB l
theorem zj4h:∀ (l:List Nat),nodupB l=true→l.Nodup
 | [],_=>List.nodup_nil
 | x :: l,h=>by
  simp only[nodupB,Bool.and_eq_true,Bool.not_eq_true'] at h
  exact List.nodup_cons.2 ⟨by simpa using h.1,zj4h l h.2⟩
def isPerm (n:Nat) (c:List Nat):Bool:=c.length == n && nodupB c && (List.range n).all (fun i=>c.contains i) && c.all (fun i=>decide (i < n))
def mkFr (P:Program) (ops:Array Oper):List Nat→List Nat→List (Nat × List Nat)
 | _,[]=>[]
 | done,i :: l=>(i,match ops[i]? with
   | some o=>(match cl P o == 2 && !zj4g o.op with
    | true=>done.filter fun x=>(match ops[x]? with | some q=>cl P q == 1 && q.dst.isSome | none=>false) && !dep ops ops.size i x
    | false=>[])
   | none=>[]) :: mkFr P ops (i :: done) l
def frOf:List (Nat × List Nat)→Nat→List Nat
 | [],_=>[]
 | (j,f) :: l,i=>if j=i then f else frOf l i
theorem frOf_mem:∀ (l:List (Nat × List Nat)) (i x:Nat),x ∈ frOf l i→∃ f,(i,f) ∈ l∧x ∈ f
 | [],i,x,h=>by simp[frOf] at h
 | (j,f) :: l,i,x,h=>by
  simp only[frOf] at h
  split at h
  ·rename_i e; subst e; exact⟨f,.head _,h⟩
  ·obtain⟨g,h1,h2⟩:=frOf_mem l i x h; exact⟨g,.tail _ h1,h2⟩
theorem frOf_nil:∀ (l:List (Nat × List Nat)) (i:Nat),(∀ f,(i,f) ∈ l→f=[])→frOf l i=[]
 | [],i,_=>rfl
 | (j,f) :: l,i,h=>by
  simp only[frOf]
  split
  ·rename_i e; subst e; exact h f (.head _)
  ·exact frOf_nil l i fun f hf=>h f (.tail _ hf)
theorem frOf_in:∀ (l:List (Nat × List Nat)),(l.map (·.1)).Nodup→∀ p ∈ l,frOf l p.1=p.2
 | [],_,p,h=>by cases h
 | (j,f) :: l,hn,p,h=>by
  simp only[List.map_cons,List.nodup_cons] at hn
  simp only[frOf]
  rcases List.mem_cons.1 h with rfl | h
  ·simp
  ·have hne:j ≠ p.1:=fun e=>hn.1 (by rw[e]; exact List.mem_map.2 ⟨p,h,rfl⟩)
   rw[if_neg hne]; exact frOf_in l hn.2 p h
def okFr (P:Program) (ops:Array Oper) (is:List (Nat × List Nat)):Bool :=
 is.all fun p=>match ops[p.1]? with
  | some o=>(p.2.isEmpty || cl P o == 2) && p.2.all fun x=>(List.range ops.size).all fun y=>y == x || dep ops ops.size x y || (match ops[x]?,ops[y]? with
   | some ox,some oy=>apt ops ox oy && notSel ox.op
   | _,_=>false)
  | none=>false
def zj5w (P:Program) (ops:Array Oper) (is:List (Nat × List Nat)):Bool :=
 P.follows .mixedOrders && isPerm ops.size (is.map (·.1)) && zj2b P ops (frOf is) (is.map (·.1)) && okFr P ops is &&
 (List.range ops.size).all fun i=>match ops[i]? with | some o=>o.after.all (fun e=>!Region.binds .any e || decide (e.on < i)) | none=>true
theorem zj74 {is:List (Nat × List Nat)} (h:zj5w P ops is=true):P.follows .mixedOrders=true∧(∀ i,i ∈ is.map (·.1) ↔ i < ops.size)∧(is.map (·.1)).Nodup∧is.length=ops.size∧zj2b P ops (frOf is) (is.map (·.1))=true ∧
  (∀ (i:Nat) (o:Oper),ops[i]? = some o→∀ e ∈ o.after,Region.binds .any e=true→e.on < i)∧(∀ j o,ops[j]? = some o→cl P o≤1→frOf is j=[]) ∧
  (∀ i,∀ x ∈ frOf is i,∀ y,y < ops.size→y ≠ x→dep ops ops.size x y=true∨Apts ops x y):=by
 unfold zj5w isPerm at h
 simp only[Bool.and_eq_true,beq_iff_eq] at h
 obtain⟨⟨⟨⟨hm,⟨⟨⟨hl,hnd⟩,h1⟩,h2⟩⟩,hp⟩,hf⟩,hb⟩:=h
 have hmem:∀ i,i ∈ is.map (·.1) ↔ i < ops.size:=by
  intro i
  constructor
  ·intro hi; simpa using List.all_eq_true.1 h2 i hi
  ·intro hi; simpa using List.all_eq_true.1 h1 i (List.mem_range.2 hi)
 have hfr:∀ p ∈ is,∃ o,ops[p.1]? = some o∧(p.2=[]∨cl P o=2)∧∀ x ∈ p.2,∀ y,y < ops.size→y ≠ x→dep ops ops.size x y=true∨Apts ops x y:=by
  intro p hp
  have:=List.all_eq_true.1 hf p hp
  cases ho:ops[p.1]? with
  | none=>rw[ho] at this; cases this
  | some o =>
   rw[ho] at this
   simp only[Bool.and_eq_true,Bool.or_eq_true,List.isEmpty_iff,beq_iff_eq] at this
   refine⟨o,rfl,this.1,fun x hx y hy hne=>?_⟩
   have h3:=List.all_eq_true.1 (List.all_eq_true.1 this.2 x hx) y (List.mem_range.2 hy)
   simp only[Bool.or_eq_true,beq_iff_eq] at h3
   rcases h3 with (h3 | h3) | h3
   ·exact absurd h3 hne
   ·exact .inl h3
   ·refine .inr fun ox oy hox hoy=>?_
    rw[hox,hoy] at h3
    simpa [Bool.and_eq_true] using h3
 refine⟨hm,hmem,zj4h _ hnd,by simpa using hl,hp,?_,?_,?_⟩
 ·intro i o ho e he hbd
  have hi:=(Array.getElem?_eq_some_iff.1 ho).1
  have:=List.all_eq_true.1 hb i (List.mem_range.2 hi)
  rw[ho] at this
  have:=Array.all_eq_true_iff_forall_mem.1 this e he
  simpa [hbd] using this
 ·intro j o ho hcl
  refine frOf_nil _ _ fun f hjf=>?_
  obtain⟨o',ho',h3,_⟩:=hfr _ hjf
  rw[ho] at ho'; injection ho' with ho'; subst ho'
  rcases h3 with h3 | h3
  ·exact h3
  ·omega
 ·intro i x hx y hy hne
  obtain⟨f,h3,h4⟩:=frOf_mem _ _ _ hx
  obtain⟨_,_,_,h5⟩:=hfr _ h3
  exact h5 x h4 y hy hne
theorem chkL_wp:∀ (f:List Nat) (rest ol:List RO),chkL ops f rest=some ol→∀ a w,wpS r P ops Q ol a w→(∀ x ∈ f,∀ o,ops[x]? = some o→StillAt P ops o a w)∧wpS r P ops Q rest a w
 | [],rest,ol,h,a,w,hw=>by simp[chkL] at h; subst h; exact⟨fun x hx=>by (cases hx),hw⟩
 | i :: f,rest,ol,h,a,w,hw=>by
  simp only[chkL] at h
  split at h
  ·rename_i o r' ho hr
   injection h with h; subst h
   obtain⟨k1,k2⟩:=hw
   obtain⟨k3,k4⟩:=chkL_wp f rest r' hr a w k2
   refine⟨fun x hx o' ho'=>?_,k4⟩
   rcases List.mem_cons.1 hx with rfl | hx
   ·rw[ho] at ho'; injection ho' with ho'; subst ho'; exact k1
   ·exact k3 x hx o' ho'
  ·cases h
theorem wpX_pick {is:List (Nat × List Nat)}:∀ (l:List (Nat × List Nat)) (ol:List RO) (D:List Nat),pickL ops l=some ol→(∀ p ∈ l,frOf is p.1=p.2)→∀ a w,wpS r P ops Q ol a w→wpX r P ops Q (frOf is) D (l.map (·.1)) a w
 | [],ol,D,h,_,a,w,hw=>by simp[pickL] at h; subst h; exact hw
 | (i,f) :: l,ol,D,h,hf,a,w,hw=>by
  simp only[pickL] at h
  split at h
  case h_2=>cases h
  rename_i o rest ho hrest
  split at h
  case h_2=>cases h
  rename_i r' hr'
  injection h with h; subst h
  show stepI r P ops Q (frOf is) D i (wpX r P ops Q (frOf is) (i :: D) (l.map (·.1))) a w
  unfold stepI
  simp only[ho]
  refine zj0n (fun a w k=>?_) hw
  obtain⟨k1,k2⟩:=chkL_wp f rest r' hr' a w k
  refine⟨fun x hx _ o' ho'=>k1 x (by have:=hf (i,f) (.head _); simp only at this; rw[← this]; exact hx) o' ho',wpX_pick l rest (i :: D) hrest (fun p hp=>hf p (.tail _ hp)) a w k2⟩
def RT.mem:RT→List Nat
 | .done=>[]
 | .seq i _ t=>i :: t.mem
 | .alt a _=>a.mem
def RT.heads:RT→List Nat
 | .done=>[]
 | .seq i _ _=>[i]
 | .alt a b=>a.heads++b.heads
def RT.depth:RT→Nat
 | .done=>0
 | .seq _ _ t=>t.depth+1
 | .alt a b=>max a.depth b.depth
def delH (i:Nat):RT→Option RT
 | .done=>none
 | .seq j _ t=>if i=j then some t else none
 | .alt a b=>match delH i a with | some t=>some t | none=>delH i b
def del (i:Nat):RT→Option RT
 | .done=>none
 | .seq j f t=>if i=j then some t else (match del i t with | some t'=>some (.seq j f t') | none=>none)
 | .alt a b=>delH i (.alt a b)
def wpT (r:Option Nat) (P:Program) (ops:Array Oper) (Q:Post) (fr:Nat→List Nat):List Nat→RT→Act→World→Prop
 | _,.done=>Q .normal
 | D,.seq i _ t=>stepI r P ops Q fr D i (wpT r P ops Q fr (i :: D) t)
 | D,.alt a b=>fun x w=>wpT r P ops Q fr D a x w∧wpT r P ops Q fr D b x w
theorem wpT_D:∀ (t:RT) {D D':List Nat},(∀ x,x ∈ D'→x ∈ D)→∀ a w,wpT r P ops Q fr D t a w→wpT r P ops Q fr D' t a w
 | .done,_,_,_,_,_,h=>h
 | .seq i _ t,D,D',hD,a,w,h=>stepI_D hD (zj0v (wpT_D t fun x hx=>by
   rcases List.mem_cons.1 hx with rfl | hx
   ·exact .head _
   ·exact .tail _ (hD x hx)) h)
 | .alt x y,D,D',hD,a,w,h=>⟨wpT_D x hD a w h.1,wpT_D y hD a w h.2⟩
mutual
def chkR (P:Program) (ops:Array Oper) (fr:Nat→List Nat):RT→Bool
 | .done=>true
 | .seq i _ t=>!t.mem.contains i && t.mem.all (fun j=>dep ops ops.size j i || okP P ops fr i j) && chkR P ops fr t
 | .alt a b=>chkA P ops fr a && chkA P ops fr b && a.mem.all (fun x=>b.mem.contains x) && b.mem.all (fun x=>a.mem.contains x) &&
   a.mem.all (fun k=>(a.heads++b.heads).contains k || a.mem.any (fun h=>dep ops ops.size k h))
def chkA (P:Program) (ops:Array Oper) (fr:Nat→List Nat):RT→Bool
 | .done=>false
 | .seq i _ t=>!t.mem.contains i && chkR P ops fr t
 | .alt a b=>chkA P ops fr a && chkA P ops fr b && a.mem.all (fun x=>b.mem.contains x) && b.mem.all (fun x=>a.mem.contains x)
end
theorem zj5x:∀ (t:RT),chkA P ops fr t=true→0 < t.depth
 | .done,h=>by simp[chkA] at h
 | .seq _ _ _,_=>by simp[RT.depth]
 | .alt a b,h=>by
  simp only[chkA,Bool.and_eq_true] at h
  have:=zj5x a h.1.1.1
  simp only[RT.depth]; omega
theorem zj3u {i:Nat}:∀ (t:RT),i ∈ t.heads→∃ t',delH i t=some t'
 | .done,h=>by simp[RT.heads] at h
 | .seq j _ t,h=>by simp only[RT.heads,List.mem_singleton] at h; subst h; exact⟨t,by simp[delH]⟩
 | .alt a b,h=>by
  simp only[RT.heads,List.mem_append] at h
  simp only[delH]
  cases ha:delH i a with
  | some t=>exact⟨t,rfl⟩
  | none =>
   rcases h with h | h
   ·obtain⟨t,e⟩:=zj3u a h; rw[ha] at e; cases e
   ·exact zj3u b h
theorem zj51 {i:Nat}:∀ (t t':RT),chkA P ops fr t=true→delH i t=some t'→chkR P ops fr t'=true∧(∀ x,x ∈ t'.mem ↔ x ∈ t.mem∧x ≠ i)∧t'.depth+1≤t.depth
 | .done,_,h,_=>by simp[chkA] at h
 | .seq j f t,t',h,hd=>by
  simp only[chkA,Bool.and_eq_true,Bool.not_eq_true'] at h
  simp only[delH] at hd
  split at hd
  ·rename_i e; subst e; injection hd with hd; subst hd
   have hni:i ∉ t.mem:=by simpa using h.1
   refine⟨h.2,fun x=>?_,by simp[RT.depth]⟩
   simp only[RT.mem,List.mem_cons]
   constructor
   ·intro hx; exact⟨.inr hx,fun e=>hni (e ▸ hx)⟩
   ·rintro ⟨h1 | h1,h2⟩
    ·exact absurd h1 h2
    ·exact h1
  ·cases hd
 | .alt a b,t',h,hd=>by
  simp only[chkA,Bool.and_eq_true] at h
  obtain⟨⟨⟨ha,hb⟩,hab⟩,hba⟩:=h
  simp only[delH] at hd
  split at hd
  ·rename_i t1 e
   injection hd with hd; subst hd
   obtain⟨h1,h2,h3⟩:=zj51 a t1 ha e
   refine⟨h1,h2,?_⟩
   simp only[RT.depth]; omega
  ·obtain⟨h1,h2,h3⟩:=zj51 b t' hb hd
   refine⟨h1,fun x=>?_,by simp only[RT.depth]; omega⟩
   rw[h2 x]
   simp only[RT.mem]
   have e1:x ∈ a.mem→x ∈ b.mem:=fun hx=>by simpa using List.all_eq_true.1 hab x hx
   have e2:x ∈ b.mem→x ∈ a.mem:=fun hx=>by simpa using List.all_eq_true.1 hba x hx
   exact⟨fun k=>⟨e2 k.1,k.2⟩,fun k=>⟨e1 k.1,k.2⟩⟩
theorem chkR_A:∀ (a b:RT),chkR P ops fr (.alt a b)=true→chkA P ops fr (.alt a b)=true:=by
 intro a b h
 simp only[chkR,chkA,Bool.and_eq_true] at h ⊢
 exact h.1
theorem del_spec {i:Nat}:∀ (t t':RT),chkR P ops fr t=true→del i t=some t'→chkR P ops fr t'=true∧(∀ x,x ∈ t'.mem ↔ x ∈ t.mem∧x ≠ i)∧t'.depth+1≤t.depth
 | .done,_,_,hd=>by simp[del] at hd
 | .seq j f t,t',h,hd=>by
  simp only[chkR,Bool.and_eq_true,Bool.not_eq_true'] at h
  obtain⟨⟨hn,hall⟩,hc⟩:=h
  have hni:j ∉ t.mem:=by simpa using hn
  simp only[del] at hd
  split at hd
  ·rename_i e; subst e; injection hd with hd; subst hd
   refine⟨hc,fun x=>?_,by simp[RT.depth]⟩
   simp only[RT.mem,List.mem_cons]
   constructor
   ·intro hx; exact⟨.inr hx,fun e=>hni (e ▸ hx)⟩
   ·rintro ⟨h1 | h1,h2⟩
    ·exact absurd h1 h2
    ·exact h1
  ·rename_i hne
   split at hd
   ·rename_i t1 e
    injection hd with hd; subst hd
    obtain⟨h1,h2,h3⟩:=del_spec t t1 hc e
    refine⟨?_,fun x=>?_,by simp only[RT.depth]; omega⟩
    ·simp only[chkR,Bool.and_eq_true,Bool.not_eq_true']
     refine⟨⟨?_,List.all_eq_true.2 fun x hx=>List.all_eq_true.1 hall x ((h2 x).1 hx).1⟩,h1⟩
     have:j ∉ t1.mem:=fun hx=>hni ((h2 j).1 hx).1
     simpa using this
    ·simp only[RT.mem,List.mem_cons,h2 x]
     constructor
     ·rintro (h | h)
      ·exact⟨.inl h,fun e=>hne (by rw[← e,h])⟩
      ·exact⟨.inr h.1,h.2⟩
     ·rintro ⟨h | h,h'⟩
      ·exact .inl h
      ·exact .inr ⟨h,h'⟩
   ·cases hd
 | .alt a b,t',h,hd=>zj51 (.alt a b) t' (chkR_A a b h) hd
theorem del_ready {i:Nat}:∀ (t:RT),chkR P ops fr t=true→i ∈ t.mem→(∀ y ∈ t.mem,dep ops ops.size i y=false)→∃ t',del i t=some t'
 | .done,_,h,_=>by simp[RT.mem] at h
 | .seq j f t,h,hi,hr=>by
  simp only[chkR,Bool.and_eq_true,Bool.not_eq_true'] at h
  simp only[del]
  by_cases e:i=j
  ·rw[if_pos e]; exact⟨t,rfl⟩
  ·rw[if_neg e]
   simp only[RT.mem,List.mem_cons] at hi hr
   obtain⟨t',ht⟩:=del_ready t h.2 (hi.resolve_left e) fun y hy=>hr y (.inr hy)
   rw[ht]; exact⟨_,rfl⟩
 | .alt a b,h,hi,hr=>by
  simp only[chkR,Bool.and_eq_true] at h
  have hk:=List.all_eq_true.1 h.2 i hi
  rw[Bool.or_eq_true] at hk
  rcases hk with hk | hk
  ·exact zj3u (.alt a b) (by simpa [RT.heads] using hk)
  ·obtain⟨y,hy,hd⟩:=List.any_eq_true.1 hk
   rw[hr y hy] at hd; cases hd
theorem delH_wp {i:Nat} {D:List Nat}:∀ (t t':RT),delH i t=some t'→∀ a w,wpT r P ops Q fr D t a w→stepI r P ops Q fr D i (wpT r P ops Q fr (i :: D) t') a w
 | .done,_,h,_,_,_=>by simp[delH] at h
 | .seq j f t,t',h,a,w,hw=>by
  simp only[delH] at h
  split at h
  ·rename_i e; subst e; injection h with h; subst h; exact hw
  ·cases h
 | .alt x y,t',h,a,w,hw=>by
  simp only[delH] at h
  split at h
  ·rename_i t1 e; injection h with h; subst h; exact delH_wp x t1 e a w hw.1
  ·exact delH_wp y t' h a w hw.2
theorem frontT (hQ:zj0e Q) (hback:∀ (i:Nat) (o:Oper),ops[i]? = some o→∀ e ∈ o.after,Region.binds .any e=true→e.on < i) {i:Nat} (hfr:∀ j o,ops[j]? = some o→cl P o≤1→fr j=[])
  (hst:∀ i,∀ x ∈ fr i,∀ y,y < ops.size→y ≠ x→dep ops ops.size x y=true∨Apts ops x y):∀ (t t':RT) (D:List Nat),chkR P ops fr t=true→del i t=some t'→i ∈ t.mem→(∀ y ∈ t.mem,y < ops.size)→(∀ y ∈ t.mem,dep ops ops.size i y=false) →
   (∀ x ∈ D,∀ y ∈ t.mem,∀ k,x ∈ fr k→Apts ops x y)→∀ a w,wpT r P ops Q fr D t a w→stepI r P ops Q fr D i (wpT r P ops Q fr (i :: D) t') a w
 | .done,_,_,_,h,_,_,_,_,_,_,_=>by simp[del] at h
 | .alt x y,t',D,_,h,_,_,_,_,a,w,hw=>delH_wp (.alt x y) t' h a w hw
 | .seq j f t,t',D,hc,h,hi,hlt,hr,hA,a,w,hw=>by
  simp only[del] at h
  split at h
  ·rename_i e; subst e; injection h with h; subst h; exact hw
  ·rename_i hne
   split at h
   case h_2=>cases h
   rename_i t1 e
   injection h with h; subst h
   simp only[chkR,Bool.and_eq_true,Bool.not_eq_true'] at hc
   obtain⟨⟨hn,hall⟩,hc⟩:=hc
   have hnj:j ∉ t.mem:=by simpa using hn
   simp only[RT.mem,List.mem_cons] at hi hlt hr hA
   have hit:=hi.resolve_left hne
   have hok:okP P ops fr j i=true:=by
    have:=List.all_eq_true.1 hall i hit
    rw[Bool.or_eq_true] at this
    rcases this with h | h
    ·rw[hr j (.inl rfl)] at h; cases h
    ·exact h
   have hw':stepI r P ops Q fr D j (wpT r P ops Q fr (j :: D) t) a w:=hw
   have h2:=zj0v (frontT hQ hback hfr hst t t1 (j :: D) hc e hit (fun y hy=>hlt y (.inr hy)) (fun y hy=>hr y (.inr hy)) (fun x hx y hy k hk=>by
    rcases List.mem_cons.1 hx with rfl | hx
    ·have hyx:y ≠ x:=fun q=>hnj (q ▸ hy)
     rcases hst k x hk y (hlt y (.inr hy)) hyx with hd | hAp
     ·have:=List.all_eq_true.1 hall y hy
      rw[Bool.or_eq_true] at this
      rcases this with hd2 | hp
      ·have l1:=dep_lt hback _ _ _ hd
       have l2:=dep_lt hback _ _ _ hd2
       omega
      ·intro ox oy hox hoy
       unfold okP okPair okStill at hp
       simp only[hox,hoy,Bool.and_eq_true,Bool.or_eq_true] at hp
       have hap:ox.apart ops oy=true∧notSel ox.op=true:=by
        rcases hp with hp | hp
        ·exact⟨hp.1.1.1,hp.1.1.2⟩
        ·exact⟨hp.1.1.1.1.1.1,hp.1.1.1.1.1.2⟩
       obtain⟨q1,q2,q3⟩:=Oper.apart_spec hap.1
       refine⟨?_,hap.2⟩
       unfold apt
       cases hd:oy.dst with
       | none=>rfl
       | some d =>
        have n1:=q3 d hd
        have n2:ox.dst ≠ some d:=fun q'=>q2 d q' hd
        simp[n1,n2]
     ·exact hAp
    ·exact hA x hx y (.inr hy) k hk)) hw'
   have h3:=comm_pair hQ hok (hfr j) (fun x hx hm=>hA x hm j (.inl rfl) i hx) h2
   refine zj0v (fun a w k=>zj0v (wpT_D t1 fun x hx=>?_) k) h3
   simp only[List.mem_cons] at hx ⊢
   rcases hx with h | h | h <;> simp[h]
theorem mainT (hQ:zj0e Q) (hback:∀ (i:Nat) (o:Oper),ops[i]? = some o→∀ e ∈ o.after,Region.binds .any e=true→e.on < i) (hfr:∀ j o,ops[j]? = some o→cl P o≤1→fr j=[])
  (hst:∀ i,∀ x ∈ fr i,∀ y,y < ops.size→y ≠ x→dep ops ops.size x y=true∨Apts ops x y) :
  ∀ (fuel:Nat) (listed:Array Bool) (t:RT) (D:List Nat),listed.size=ops.size→(∀ i,i ∈ t.mem ↔ i < ops.size∧listed.getD i true=false)→chkR P ops fr t=true→t.depth≤fuel→Closed ops listed→(∀ x ∈ D,listed.getD x false=true) →
   ∀ a w,wpT r P ops Q fr D t a w→wpAnyIn (WF r) 0 P .any ops Q fuel listed a w:=by
 have none_ready:∀ (listed:Array Bool) (c:List Nat),listed.size=ops.size→(∀ i,i ∈ c ↔ i < ops.size∧listed.getD i true=false)→Region.ready .any ops listed=[]→c=[]:=by
  intro listed c hsz hm hr
  cases c with
  | nil=>rfl
  | cons x c =>
   exfalso
   have key:∀ n i,i≤n→i < ops.size→listed.getD i true=false→False:=by
    intro n
    induction n using Nat.strongRecOn with
    | _ n ih =>
     intro i hin hi hl
     have:i ∈ Region.ready .any ops listed:=by
      rw[mem_ready]
      refine⟨hl,ops[i],Array.getElem?_eq_getElem hi,fun e he hb=>?_⟩
      have hlt:=hback i _ (Array.getElem?_eq_getElem hi) e he hb
      rcases hb':listed.getD e.on true with _ | _
      ·exact (ih e.on (by omega) e.on (Nat.le_refl _) (by omega) hb').elim
      ·have hs:e.on < listed.size:=by omega
       simpa [hs] using hb'
     rw[hr] at this; cases this
   have hx:=(hm x).1 (by simp)
   exact key x x (Nat.le_refl _) hx.1 hx.2
 have memNil:∀ t:RT,chkR P ops fr t=true→t.mem=[]→t=.done:=by
  intro t
  cases t with
  | done=>intros; rfl
  | seq i f t=>intro _ h; simp[RT.mem] at h
  | alt a b =>
   intro hc h
   have key:∀ t:RT,chkA P ops fr t=true→t.mem ≠ []:=by
    intro t
    induction t with
    | done=>intro h; simp[chkA] at h
    | seq i f t _=>intro _ h; simp[RT.mem] at h
    | alt a b iha _=>intro h; simp only[chkA,Bool.and_eq_true] at h; exact iha h.1.1.1
   exact absurd h (key _ (chkR_A a b hc))
 have depthNil:∀ t:RT,chkR P ops fr t=true→t.depth=0→t=.done:=by
  intro t
  cases t with
  | done=>intros; rfl
  | seq i f t=>intro _ h; simp[RT.depth] at h
  | alt a b=>intro hc h; have:=zj5x _ (chkR_A a b hc); omega
 intro fuel
 induction fuel with
 | zero =>
  intro listed t D hsz hm hc hlen _ _ a w h
  have ht:=depthNil t hc (by omega)
  subst ht
  refine⟨?_,h⟩
  cases hr:Region.ready .any ops listed with
  | nil=>rfl
  | cons i l =>
   have hi:i ∈ Region.ready .any ops listed:=by rw[hr]; simp
   obtain⟨h1,o,ho,_⟩:=mem_ready.1 hi
   have:i ∈ (RT.done).mem:=(hm i).2 ⟨(Array.getElem?_eq_some_iff.1 ho).1,h1⟩
   cases this
 | succ fuel ih =>
  intro listed t D hsz hm hc hlen hcl hDl a w h
  refine⟨fun hr=>?_,fun i hi=>?_⟩
  ·have:=memNil t hc (none_ready listed t.mem hsz hm hr)
   subst this; exact h
  ·obtain⟨h1,o,ho,hall⟩:=mem_ready.1 hi
   have hlt:i < ops.size:=(Array.getElem?_eq_some_iff.1 ho).1
   have hic:i ∈ t.mem:=(hm i).2 ⟨hlt,h1⟩
   have hdeps:∀ o',ops[i]? = some o'→∀ e ∈ o'.after,Region.binds .any e=true→listed.getD e.on false=true:=by
    intro o' ho'; rw[ho] at ho'; injection ho' with ho'; subst ho'; exact hall
   have unl:∀ y ∈ t.mem,y < ops.size∧listed.getD y false=false:=by
    intro y hy
    obtain⟨k1,k2⟩:=(hm y).1 hy
    have hys:y < listed.size:=by rw[hsz]; exact k1
    exact⟨k1,by simpa [hys] using k2⟩
   have hnd:∀ y ∈ t.mem,dep ops ops.size i y=false:=by
    intro y hy
    cases hd:dep ops ops.size i y with
    | false=>rfl
    | true => have hl := zj2o hcl _ i y hd hdeps
              rw[(unl y hy).2] at hl; cases hl
   have hA:∀ x ∈ D,∀ y ∈ t.mem,∀ k,x ∈ fr k→Apts ops x y:=by
    intro x hx y hy k hk
    have hxl:=hDl x hx
    have hne:y ≠ x:=by rintro rfl; rw[(unl _ hy).2] at hxl; cases hxl
    rcases hst k x hk y (unl y hy).1 hne with hd | hAp
    ·have hl:=zj2o hcl _ x y hd (fun o' ho' e' he' hb'=>hcl x o' hxl ho' e' he' hb')
     rw[(unl y hy).2] at hl; cases hl
    ·exact hAp
   obtain⟨t',hdel⟩:=del_ready t hc hic hnd
   obtain⟨hc',hmem',hdep'⟩:=del_spec t t' hc hdel
   have h2:=frontT hQ hback hfr hst t t' D hc hdel hic (fun y hy=>(unl y hy).1) hnd hA a w h
   have hDl':∀ x ∈ i :: D,(listed.setIfInBounds i true).getD x false=true:=by
    intro x hx
    by_cases hij:i=x
    ·subst hij; simp[hsz,hlt]
    ·rw[getD_set_ne false hij]
     rcases List.mem_cons.1 hx with h | h
     ·exact absurd h.symm hij
     ·exact hDl x h
   have h3:stepI r P ops Q fr D i (wpAnyIn (WF r) 0 P .any ops Q fuel (listed.setIfInBounds i true)) a w:=by
    refine zj0v (fun a' w' hk=>ih (listed.setIfInBounds i true) t' (i :: D) (by simp[hsz]) ?_ hc' (by omega) (zj5v hcl hdeps) hDl' a' w' hk) h2
    intro j
    rw[hmem' j,hm j]
    by_cases hij:i=j
    ·subst hij
     constructor
     ·rintro ⟨_,hj⟩; exact absurd rfl hj
     ·rintro ⟨_,hj⟩; simp[hsz,hlt] at hj
    ·rw[getD_set_ne true hij]
     exact⟨fun k=>k.1,fun k=>⟨k,fun e=>hij e.symm⟩⟩
   unfold stepI at h3
   simp only[ho] at h3
   replace h3:=zj0n (fun a w k=>k.2) h3
   unfold wpOpIn
   simp only[ho]
   -- from 'stepS' to the model's own step
   unfold stepS at h3
   split at h3
   ·rename_i hw
    rw[if_pos hw]
    split at h3
    ·rename_i hcl0
     obtain⟨v,hv,hk⟩:=h3
     refine⟨fun _ _=>trivial,?_⟩
     rw[Oper.semAt_eq _ _ _ (zj1k (P:=P) (by omega)),hv w]; exact hk
    ·rename_i hcl1
     obtain⟨v,hv,hk⟩:=h3
     refine⟨fun _ _=>trivial,?_⟩
     rw[Oper.semAt_eq _ _ _ (zj1k (P:=P) (by omega)),hv w (Grow.refl w)]; exact hk
    ·exact h3
   ·rename_i hw
    rw[if_neg hw]; exact⟨fun _ _=>trivial,h3⟩
def frS (P:Program) (ops:Array Oper) (i:Nat):List Nat:=match ops[i]? with
 | some o=>(match cl P o == 2 && !zj4g o.op with
  | true=>(List.range ops.size).filter fun x=>(match ops[x]? with | some q=>cl P q == 1 && q.dst.isSome | none=>false) && !dep ops ops.size i x
  | false=>[])
 | none=>[]
def mkT (P:Program) (ops:Array Oper):Nat→List Nat→List Nat→RT
 | 0,_,_=>.done
 | f+1,left,done =>
  let ready:=left.filter fun i=>match ops[i]? with | some o=>o.after.all fun e=>!Region.binds .any e || done.contains e.on | none=>false
  let at_ (k:Nat):=ready.find? fun i=>match ops[i]? with | some o=>cl P o == k | none=>false
  let go (i:Nat):RT:=.seq i ((frS P ops i).filter fun x=>done.contains x) (mkT P ops f (left.filter (· != i)) (i :: done))
  match at_ 0 with
  | some i=>go i
  | none=>match at_ 1 with
   | some i=>go i
   | none=>match ready with
    | []=>.done
    | i :: l=>l.foldl (fun t j=>.alt t (go j)) (go i)
def chkF (P:Program) (ops:Array Oper):List Nat→RT→Bool
 | _,.done=>true
 | D,.seq i f t=>(frS P ops i).all (fun x=>!D.contains x || f.contains x) && chkF P ops (i :: D) t
 | D,.alt a b=>chkF P ops D a && chkF P ops D b
def okTree (P:Program) (ops:Array Oper) (t:RT):Bool :=
 chkF P ops [] t && P.follows .mixedOrders && chkR P ops (frS P ops) t && decide (t.depth≤ops.size) && (List.range ops.size).all (fun i=>t.mem.contains i) && t.mem.all (fun i=>decide (i < ops.size)) &&
 (List.range ops.size).all (fun i=>(match ops[i]? with | some o=>(frS P ops i).isEmpty || cl P o == 2 | none=>true) && (frS P ops i).all fun x=>(List.range ops.size).all fun y=>y == x || dep ops ops.size x y || (match ops[x]?,ops[y]? with
   | some ox,some oy=>apt ops ox oy && notSel ox.op
   | _,_=>false)) &&
 (List.range ops.size).all fun i=>match ops[i]? with | some o=>o.after.all (fun e=>!Region.binds .any e || decide (e.on < i)) | none=>true
def zj0p:Order:=fun P ops =>
 let c0:=mkFr P ops [] (List.range ops.size)
 if zj5w P ops c0 then some (.one c0)
 else
  let c:=mkFr P ops [] (greedy P ops ops.size (List.range ops.size) [])
  if zj5w P ops c then some (.one c) else
   let t:=mkT P ops ops.size (List.range ops.size) []
   if okTree P ops t then some (.tree t) else none
theorem zj75 {is:List (Nat × List Nat)} (h:zj0p P ops=some (.one is)):zj5w P ops is=true:=by
 unfold zj0p at h
 simp only[] at h
 split at h
 ·rename_i hh; injection h with h; injection h with h; subst h; exact hh
 ·split at h
  ·rename_i hh; injection h with h; injection h with h; subst h; exact hh
  ·split at h
   ·injection h with h; cases h
   ·cases h
theorem zj5y {t:RT} (h:zj0p P ops=some (.tree t)):okTree P ops t=true:=by
 unfold zj0p at h
 simp only[] at h
 split at h
 ·injection h with h; cases h
 ·split at h
  ·injection h with h; cases h
  ·split at h
   ·rename_i hh; injection h with h; injection h with h; subst h; exact hh
   ·cases h
theorem okTree_spec {t:RT} (h:okTree P ops t=true):P.follows .mixedOrders=true∧chkR P ops (frS P ops) t=true∧t.depth≤ops.size∧(∀ i,i ∈ t.mem ↔ i < ops.size) ∧
  (∀ (i:Nat) (o:Oper),ops[i]? = some o→∀ e ∈ o.after,Region.binds .any e=true→e.on < i)∧(∀ j o,ops[j]? = some o→cl P o≤1→frS P ops j=[]) ∧
  (∀ i,∀ x ∈ frS P ops i,∀ y,y < ops.size→y ≠ x→dep ops ops.size x y=true∨Apts ops x y):=by
 unfold okTree at h
 simp only[Bool.and_eq_true,decide_eq_true_eq] at h
 obtain⟨⟨⟨⟨⟨⟨⟨_,hm⟩,hc⟩,hd⟩,h1⟩,h2⟩,h3⟩,hb⟩:=h
 refine⟨hm,hc,hd,fun i=>⟨fun hi=>by simpa using List.all_eq_true.1 h2 i hi,fun hi=>by simpa using List.all_eq_true.1 h1 i (List.mem_range.2 hi)⟩,?_,?_,?_⟩
 ·intro i o ho e he hbd
  have hi:=(Array.getElem?_eq_some_iff.1 ho).1
  have:=List.all_eq_true.1 hb i (List.mem_range.2 hi)
  rw[ho] at this
  have:=Array.all_eq_true_iff_forall_mem.1 this e he
  simpa [hbd] using this
 ·intro j o ho hcl
  have hi:=(Array.getElem?_eq_some_iff.1 ho).1
  have:=List.all_eq_true.1 h3 j (List.mem_range.2 hi)
  rw[ho] at this
  simp only[Bool.and_eq_true,Bool.or_eq_true,List.isEmpty_iff,beq_iff_eq] at this
  rcases this.1 with h | h
  ·exact h
  ·omega
 ·intro i x hx y hy hne
  have hi:i < ops.size:=by
   rcases Nat.lt_or_ge i ops.size with hi | hi
   ·exact hi
   ·unfold frS at hx
    rw[Array.getElem?_eq_none hi] at hx; cases hx
  have:=List.all_eq_true.1 h3 i (List.mem_range.2 hi)
  simp only[Bool.and_eq_true] at this
  have h4:=List.all_eq_true.1 (List.all_eq_true.1 this.2 x hx) y (List.mem_range.2 hy)
  simp only[Bool.or_eq_true,beq_iff_eq] at h4
  rcases h4 with (h4 | h4) | h4
  ·exact absurd h4 hne
  ·exact .inl h4
  ·refine .inr fun ox oy hox hoy=>?_
   rw[hox,hoy] at h4
   simpa [Bool.and_eq_true] using h4
theorem okTree_F {t:RT} (h:okTree P ops t=true):chkF P ops [] t=true:=by
 unfold okTree at h
 simp only[Bool.and_eq_true] at h
 exact h.1.1.1.1.1.1.1
theorem chkT_wp:∀ (f:List Nat) (rest ol:ROT),chkT ops f rest=some ol→∀ a w,wpR r P ops Q ol a w→(∀ x ∈ f,∀ o,ops[x]? = some o→StillAt P ops o a w)∧wpR r P ops Q rest a w
 | [],rest,ol,h,a,w,hw=>by simp[chkT] at h; subst h; exact⟨fun x hx=>by (cases hx),hw⟩
 | i :: f,rest,ol,h,a,w,hw=>by
  simp only[chkT] at h
  split at h
  ·rename_i o r' ho hr
   injection h with h; subst h
   obtain⟨k1,k2⟩:=hw
   obtain⟨k3,k4⟩:=chkT_wp f rest r' hr a w k2
   refine⟨fun x hx o' ho'=>?_,k4⟩
   rcases List.mem_cons.1 hx with rfl | hx
   ·rw[ho] at ho'; injection ho' with ho'; subst ho'; exact k1
   ·exact k3 x hx o' ho'
  ·cases h
theorem zj52:∀ (t:RT) (ol:ROT) (D:List Nat),pickT ops t=some ol→chkF P ops D t=true→∀ a w,wpR r P ops Q ol a w→wpT r P ops Q (frS P ops) D t a w
 | .done,ol,D,h,_,a,w,hw=>by simp[pickT] at h; subst h; exact hw
 | .seq i f t,ol,D,h,hf,a,w,hw=>by
  simp only[pickT] at h
  split at h
  case h_2=>cases h
  rename_i o rest ho hrest
  split at h
  case h_2=>cases h
  rename_i r' hr'
  injection h with h; subst h
  simp only[chkF,Bool.and_eq_true] at hf
  show stepI r P ops Q (frS P ops) D i (wpT r P ops Q (frS P ops) (i :: D) t) a w
  unfold stepI
  simp only[ho]
  refine zj0n (fun a w k=>?_) hw
  obtain⟨k1,k2⟩:=chkT_wp f rest r' hr' a w k
  refine⟨fun x hx hxD o' ho'=>k1 x ?_ o' ho',zj52 t rest (i :: D) hrest hf.2 a w k2⟩
  have:=List.all_eq_true.1 hf.1 x hx
  simpa [hxD] using this
 | .alt x y,ol,D,h,hf,a,w,hw=>by
  simp only[pickT] at h
  split at h
  case h_2=>cases h
  rename_i p q hp hq
  injection h with h; subst h
  simp only[chkF,Bool.and_eq_true] at hf
  exact⟨zj52 x p D hp hf.1 a w hw.1,zj52 y q D hq hf.2 a w hw.2⟩
theorem ordOk_one (hQ:zj0e Q) (id:Nat) (ops:Array Oper) (is:List (Nat × List Nat)) (ol:List RO) (a:Act) (W:World) (ho:zj0p P ops=some (.one is)) (hp:pickL ops is=some ol)
  (h:∀ W':World,W'.heap=W.heap→W'.os=W.os→W'.tape=W.tape→W'.output=W.output→wpS r P ops Q ol a W'):(Code.region id ops true).wpIn (WF r) 0 P Q a W:=by
 have hok:=zj75 ho
 obtain⟨hm,hmem,hnd,hlen,hpo,hback,hfr,hst⟩:=zj74 hok
 refine wpIn_region_any hm ?_
 have hw:=h { W with drawn:=W.drawn+1 } rfl rfl rfl rfl
 have hw:=wpX_pick (is:=is) is ol [] hp (frOf_in is hnd) a _ hw
 refine main hQ hback hfr hst ops.size _ (is.map (·.1)) [] (by simp) ?_ hnd hpo (by simp; omega) ?_ (fun x hx=>by cases hx) a _ hw
 ·intro i
  rw[hmem i]
  constructor
  ·intro hi; exact⟨hi,by simp[hi]⟩
  ·exact fun hi=>hi.1
 ·intro k o hk _
  exfalso
  rcases Nat.lt_or_ge k ops.size with h1 | h1
  ·simp[h1] at hk
  ·rw[Array.getD_eq_getD_getElem?,Array.getElem?_eq_none (by simpa using h1)] at hk
   cases hk
theorem ordOk (hQ:zj0e Q):OrdOk r P zj0p Q where
 one:=ordOk_one hQ
 tree id ops T rt a W ho hp h:=by
  have hok:=zj5y ho
  obtain⟨hm,hc,hd,hmem,hback,hfr,hst⟩:=okTree_spec hok
  refine wpIn_region_any hm ?_
  have hw:=h { W with drawn:=W.drawn+1 } rfl rfl rfl rfl
  have hw:=zj52 T rt [] hp (okTree_F hok) a _ hw
  refine mainT hQ hback hfr hst ops.size _ T [] (by simp) ?_ hc hd ?_ (fun x hx=>by cases hx) a _ hw
  ·intro i
   rw[hmem i]
   constructor
   ·intro hi; exact⟨hi,by simp[hi]⟩
   ·exact fun hi=>hi.1
  ·intro k o hk _
   exfalso
   rcases Nat.lt_or_ge k ops.size with h1 | h1
   ·simp[h1] at hk
   ·rw[Array.getD_eq_getD_getElem?,Array.getElem?_eq_none (by simpa using h1)] at hk
    cases hk
theorem zj13 {T:Nat→XC} {ord:Order} {nt:Nat} (hQ:zj0e Q):∀ k,zj0e (denK T r P ord nt Q k)
 | []=>hQ
 | .code _ :: k=>fun c a w h=>zj13 hQ k c a w h
 | .ops _ :: k=>fun c a w h=>zj13 hQ k c a w h
 | .blk _ :: k=>fun c a w h=>zj13 hQ k c a w h
 | .lend _ :: k=>fun c a w h=>zj13 hQ k c a w h
end
end Go.Sx
