/- The engine: records and arrays compared cell by cell. -/
import Derived.Test.YtgghmmjoplddbaaGreatDoorSxApp
import Derived.ChangeKeysEq
import Derived.Laws.Externs
import Derived.KernelRfl
import Derived.MapKept
import Derived.Laws.MakeOwn
set_option linter.unusedSimpArgs false
set_option linter.unusedVariables false
set_option linter.unnecessarySimpa false
namespace Go.Sx

def eqVs:List CK→List Value→List Value→Option Bool
  | [],[],[]=>some true
  | .int k :: ks,.int j a :: l,.int i b :: m=>(match kEq j k,kEq i k,eqVs ks l m with | true,true,some r=>some (a == b && r) | _,_,_=>none)
  | .bool :: ks,.bool a :: l,.bool b :: m=>(match eqVs ks l m with | some r=>some (a == b && r) | none=>none)
  | .str :: ks,.string a :: l,.string b :: m=>(match eqVs ks l m with | some r=>some (a.toList == b.toList && r) | none=>none)
  | _,_,_=>none

theorem zj31:∀ (ks:List CK) (l m:List Value) {r:Bool},eqVs ks l m=some r→l.length=ks.length∧m.length=ks.length
  | [],[],[],r,h=>⟨rfl,rfl⟩
  | [],[],_ :: _,r,h=>by simp[eqVs] at h
  | [],_ :: _,_,r,h=>by simp[eqVs] at h
  | c :: ks,l,m,r,h=>by
    unfold eqVs at h
    split at h
    · contradiction
    · rename_i e1; injection e1 with e0 e1; subst e1
      split at h
      · rename_i q _ _ hq
        obtain⟨h1,h2⟩:=zj31 _ _ _ hq
        simp[h1,h2]
      · cases h
    · rename_i e1; injection e1 with e0 e1; subst e1
      split at h
      · rename_i q hq
        obtain⟨h1,h2⟩:=zj31 _ _ _ hq
        simp[h1,h2]
      · cases h
    · rename_i e1; injection e1 with e0 e1; subst e1
      split at h
      · rename_i q hq
        obtain⟨h1,h2⟩:=zj31 _ _ _ hq
        simp[h1,h2]
      · cases h
    · cases h

def eqV1:CK→Value→Value→Option Bool
  | .int k,.int j a,.int i b=>and2' (kEq j k) (kEq i k) (a == b)
  | .bool,.bool a,.bool b=>some (a == b)
  | .str,.string a,.string b=>some (a.toList == b.toList)
  | _,_,_=>none
where and2' (x y:Bool) (r:Bool):Option Bool:=match x,y with | true,true=>some r | _,_=>none

theorem eqVs_cons {c : CK} {ks : List CK} {l m : List Value} {r : Bool} (h : eqVs (c :: ks) l m = some r) :
    ∃ u l' v m' r1 r2,l=u :: l'∧m=v :: m'∧eqV1 c u v=some r1∧eqVs ks l' m'=some r2∧r=(r1 && r2):=by
  unfold eqVs at h
  split at h
  · contradiction
  · rename_i e1; injection e1 with e0 e1; subst e1; subst e0
    split at h
    · rename_i q h1 h2 hq
      injection h with h; subst h
      exact⟨_,_,_,_,_,_,rfl,rfl,by simp[eqV1,eqV1.and2',h1,h2],hq,rfl⟩
    · cases h
  · rename_i e1; injection e1 with e0 e1; subst e1; subst e0
    split at h
    · rename_i q hq
      injection h with h; subst h
      exact⟨_,_,_,_,_,_,rfl,rfl,rfl,hq,rfl⟩
    · cases h
  · rename_i e1; injection e1 with e0 e1; subst e1; subst e0
    split at h
    · rename_i q hq
      injection h with h; subst h
      exact⟨_,_,_,_,_,_,rfl,rfl,rfl,hq,rfl⟩
    · cases h
  · cases h

theorem eqVs_mk {c:CK} {ks:List CK} {l m:List Value} {u v:Value} {r1 r2:Bool} (h1:eqV1 c u v=some r1) (h2:eqVs ks l m=some r2):eqVs (c :: ks) (u :: l) (v :: m)=some (r1 && r2):=by
  unfold eqV1 at h1
  split at h1
  · unfold eqV1.and2' at h1
    split at h1
    · rename_i e1 e2; injection h1 with h1; subst h1
      simp only[eqVs,e1,e2,h2]
    · cases h1
  · injection h1 with h1; subst h1; simp only[eqVs,h2]
  · injection h1 with h1; subst h1; simp only[eqVs,h2]
  · cases h1

theorem zj6y : ∀ (ks ks' : List CK) (l m : List Value) {r : Bool}, eqVs (ks ++ ks') l m = some r →
    ∃ r1 r2,eqVs ks (l.take ks.length) (m.take ks.length)=some r1∧eqVs ks' (l.drop ks.length) (m.drop ks.length)=some r2∧r=(r1 && r2)
  | [],ks',l,m,r,h=>⟨true,r,by simp[eqVs],by simpa using h,by simp⟩
  | c :: ks,ks',l,m,r,h=>by
    obtain⟨u,l',v,m',r1,r2,rfl,rfl,h1,h2,rfl⟩:=eqVs_cons h
    obtain⟨q1,q2,h3,h4,rfl⟩:=zj6y ks ks' l' m' h2
    exact⟨r1 && q1,q2,by simpa using eqVs_mk h1 h3,by simpa using h4,by rw[Bool.and_assoc]⟩

theorem bOf_is {H:List SO} {x:SV} {b:Bool} {v:Value} (h:bOf x=some b) (k:Is H x v):v=.bool b:=by
  unfold bOf at h
  split at h
  · injection h with h; subst h; simpa [Is] using k
  · injection h with h; subst h; simpa [Is] using k
  · injection h with h; subst h; simpa [Is] using k
  · cases h

theorem eqSV_spec {H:List SO}:∀ (ks:List CK) (l m:List SV) (us ws:List Value) {r:Bool},eqSV ks l m=some r→IsL H l us→IsL H m ws→eqVs ks us ws=some r:=by
  intro ks l m
  induction l generalizing ks m with
  | nil =>
    intro us ws r h hu hw
    simp only[IsL] at hu; subst hu
    unfold eqSV at h
    split at h
    · simp only[IsL] at hw; subst hw; simpa [eqVs] using h
    all_goals (first | cases h | (rename_i e; cases e))
    all_goals (rename_i e _; cases e)
  | cons x l ih =>
    intro us ws r h hu hw
    simp only[IsL] at hu
    obtain⟨u,us',hu1,hu2,rfl⟩:=hu
    unfold eqSV at h
    split at h
    · contradiction
    · rename_i k ks' j a l' i b m' e
      injection e with e1 e2; subst e1; subst e2
      simp only[IsL] at hw
      obtain⟨v,ws',hw1,hw2,rfl⟩:=hw
      simp only[Is] at hu1 hw1; subst hu1; subst hw1
      split at h
      · rename_i q g1 g2 hq
        simp only[eqVs,g1,g2,ih _ _ _ _ hq hu2 hw2]; exact h
      · cases h
    · rename_i ks' x' l' y m' e
      injection e with e1 e2; subst e1; subst e2
      simp only[IsL] at hw
      obtain⟨v,ws',hw1,hw2,rfl⟩:=hw
      split at h
      · rename_i p q w g1 g2 hq
        have e1:=bOf_is g1 hu1
        have e2:=bOf_is g2 hw1
        subst e1; subst e2
        simp only[eqVs,ih _ _ _ _ hq hu2 hw2]; exact h
      · cases h
    · rename_i ks' a l' b m' e
      injection e with e1 e2; subst e1; subst e2
      simp only[IsL] at hw
      obtain⟨v,ws',hw1,hw2,rfl⟩:=hw
      simp only[Is] at hu1 hw1; subst hu1; subst hw1
      split at h
      · rename_i q hq
        simp only[eqVs,ih _ _ _ _ hq hu2 hw2]; exact h
      · cases h
    · cases h

section
variable {P:Program}

theorem zj3f {t : TypeId} {m : Nat} (hu : (P.underlying t).isSome = true) (hz : szT P t = some m) (us : List Value) (off : Nat) (W : World) :
    (isAggT P t=true→(part t us.toArray off).run P W=.ok (.agg ((us.drop off).take m).toArray) W)∧(isAggT P t=false→∀ u,us[off]? = some u→(part t us.toArray off).run P W=.ok u W):=by
  constructor
  · intro hg; simp[part,zj1c P _ hu,hg,zj0d hz,List.extract_toArray]
  · intro hg u h; simp[part,zj1c P _ hu,hg,h]

def EqG (P:Program) (D:Nat) (t:TypeId) (ks:List CK):Prop:=∀ (W:World) (us ws:List Value) (r:Bool),eqVs ks us ws=some r →
  (isAggT P t=true→(Op.equalIn D t (.agg us.toArray) (.agg ws.toArray)).run P W=.ok r W)∧(isAggT P t=false→∃ u v,us=[u]∧ws=[v]∧(Op.equalIn D t u v).run P W=.ok r W)

theorem EqG.part {D : Nat} {t : TypeId} {ks : List CK} (h : EqG P D t ks) (hu : (P.underlying t).isSome = true) (hz : szT P t = some ks.length) {us ws : List Value} {off : Nat} {r : Bool}
    (he:eqVs ks ((us.drop off).take ks.length) ((ws.drop off).take ks.length)=some r) (W:World) :
    ∃ x y,(part t us.toArray off).run P W=.ok x W∧(part t ws.toArray off).run P W=.ok y W∧(Op.equalIn D t x y).run P W=.ok r W:=by
  obtain⟨h1,h2⟩:=h W _ _ _ he
  cases hg:isAggT P t with
  | true=>exact⟨_,_,(zj3f hu hz us off W).1 hg,(zj3f hu hz ws off W).1 hg,h1 hg⟩
  | false =>
    obtain⟨u,v,e1,e2,h3⟩:=h2 hg
    have g1:us[off]? = some u:=by have:=congrArg (·[0]?) e1; simp only[List.getElem?_take,List.getElem?_drop] at this; split at this <;> simp_all
    have g2:ws[off]? = some v:=by have:=congrArg (·[0]?) e2; simp only[List.getElem?_take,List.getElem?_drop] at this; split at this <;> simp_all
    exact⟨u,v,(zj3f hu hz us off W).2 hg u g1,(zj3f hu hz ws off W).2 hg v g2,h3⟩

theorem eqFs_run {D : Nat} {f : TypeId → Option (List CK)} : ∀ (fs : List Field) (off : Nat) (ks : List CK), eqFs f off fs = some ks →
    (∀ x ∈ fs,∀ l,f x.type=some l→EqG P D x.type l∧(P.underlying x.type).isSome=true∧szT P x.type=some l.length) →
    ∀ (W:World) (us ws:List Value) (r:Bool),eqVs ks (us.drop off) (ws.drop off)=some r→(Op.eqFields D us.toArray ws.toArray fs).run P W=.ok r W
  | [],off,ks,h,hall,W,us,ws,r,he=>by
    simp only[eqFs] at h; injection h with h; subst h
    have hr:r=true:=by
      obtain⟨h1,h2⟩:=zj31 _ _ _ he
      have e1:=List.eq_nil_of_length_eq_zero h1
      have e2:=List.eq_nil_of_length_eq_zero h2
      rw[e1,e2] at he; simp[eqVs] at he; exact he
    subst hr
    simp[Op.eqFields]
  | x :: fs,off,ks,h,hall,W,us,ws,r,he=>by
    simp only[eqFs] at h
    split at h
    case h_2=>cases h
    rename_i l h1 h2 h3
    split at h
    case h_2=>cases h
    rename_i q hq
    injection h with h; subst h
    have hoff:x.offset=off:=by simpa using h2
    obtain⟨r1,r2,g1,g2,rfl⟩:=zj6y _ _ _ _ he
    obtain⟨hG,hu,hz⟩:=hall x (by simp) l h3
    obtain⟨p,q',p1,p2,p3⟩:=hG.part hu hz g1 W
    have hn : x.name ≠ "_" := by simpa using h1
    have ih:=eqFs_run fs (off+l.length) q hq (fun y hy=>hall y (by simp[hy])) W us ws r2 (by rw[List.drop_drop,List.drop_drop] at g2; exact g2)
    simp only[Op.eqFields,hn,ne_eq,not_false_eq_true,if_true,Sem.run_bind,hoff,p1,p2,p3,Result.andThen_ok]
    cases r1
    · simp
    · simpa using ih

theorem eqIt_run {D : Nat} {e : TypeId} {l : List CK} (hG : EqG P D e l) (hu : (P.underlying e).isSome = true) (hz : szT P e = some l.length) : ∀ (n i : Nat) (W : World) (us ws : List Value) (r : Bool),
    eqVs ((List.replicate n l).flatten) (us.drop (i*l.length)) (ws.drop (i*l.length))=some r→(Op.eqItems D e l.length us.toArray ws.toArray (List.range' i n)).run P W=.ok r W
  | 0,i,W,us,ws,r,he=>by
    simp only[List.replicate_zero,List.flatten_nil] at he
    have hr:r=true:=by
      obtain⟨h1,h2⟩:=zj31 _ _ _ he
      have e1:=List.eq_nil_of_length_eq_zero h1
      have e2:=List.eq_nil_of_length_eq_zero h2
      rw[e1,e2] at he; simp[eqVs] at he; exact he
    subst hr
    simp[Op.eqItems]
  | n+1,i,W,us,ws,r,he=>by
    rw[List.replicate_succ,List.flatten_cons] at he
    obtain⟨r1,r2,g1,g2,rfl⟩:=zj6y _ _ _ _ he
    obtain⟨p,q',p1,p2,p3⟩:=hG.part hu hz g1 W
    have ih:=eqIt_run hG hu hz n (i+1) W us ws r2 (by rw[List.drop_drop,List.drop_drop] at g2; rw[show (i+1)*l.length=i*l.length+l.length by rw[Nat.add_mul]; omega]; exact g2)
    simp only[List.range'_succ,Op.eqItems,Sem.run_bind,p1,p2,p3,Result.andThen_ok]
    cases r1
    · simp
    · simpa using ih

theorem eqKs_und {d:Nat} {t:TypeId} {ks:List CK} (h:eqKs P d t=some ks):(P.underlying t).isSome=true:=by
  cases d with
  | zero=>simp[eqKs] at h
  | succ d =>
    simp only[eqKs] at h
    cases hu:P.underlying t with
    | none=>rw[hu] at h; cases h
    | some _=>rfl

theorem zj6z:∀ (d:Nat) (t:TypeId) (ks:List CK) (D:Nat),eqKs P d t=some ks→EqG P (D+d) t ks
  | 0,t,ks,D,h=>by simp[eqKs] at h
  | d+1,t,ks,D,h=>by
    intro W us ws r he
    simp only[eqKs] at h
    have one:∀ c,ks=[c]→∃ u v,us=[u]∧ws=[v]∧∃ r1,eqV1 c u v=some r1∧r=r1:=by
      intro c hc; subst hc
      obtain⟨u,l',v,m',r1,r2,rfl,rfl,h1,h2,rfl⟩:=eqVs_cons he
      obtain⟨g1,g2⟩:=zj31 _ _ _ h2
      have e1:=List.eq_nil_of_length_eq_zero g1
      have e2:=List.eq_nil_of_length_eq_zero g2
      subst e1; subst e2
      simp only[eqVs] at h2; injection h2 with h2; subst h2
      exact⟨u,v,rfl,rfl,r1,h1,by simp⟩
    split at h
    · rename_i k hk
      injection h with h; subst h
      obtain⟨u,v,rfl,rfl,r1,h1,rfl⟩:=one _ rfl
      refine⟨fun hg=>by simp[isAggT,hk] at hg,fun _=>⟨u,v,rfl,rfl,?_⟩⟩
      unfold eqV1 at h1
      split at h1
      · rename_i e; injection e with e; subst e
        unfold eqV1.and2' at h1
        split at h1
        · rename_i e1 e2
          injection h1 with h1; subst h1
          have e1:=kEq_eq e1; have e2:=kEq_eq e2; subst e1; subst e2
          exact run_equalIn_int W (D+d) t _ _ _ _ hk
        · cases h1
      · rename_i e; cases e
      · rename_i e; cases e
      · cases h1
    · rename_i hk
      injection h with h; subst h
      obtain⟨u,v,rfl,rfl,r1,h1,rfl⟩:=one _ rfl
      refine⟨fun hg=>by simp[isAggT,hk] at hg,fun _=>⟨u,v,rfl,rfl,?_⟩⟩
      unfold eqV1 at h1
      split at h1
      · rename_i e; cases e
      · injection h1 with h1; subst h1
        exact run_equalIn_bool' W (D+d) t _ _ hk
      · rename_i e; cases e
      · cases h1
    · rename_i hk
      injection h with h; subst h
      obtain⟨u,v,rfl,rfl,r1,h1,rfl⟩:=one _ rfl
      refine⟨fun hg=>by simp[isAggT,hk] at hg,fun _=>⟨u,v,rfl,rfl,?_⟩⟩
      unfold eqV1 at h1
      split at h1
      · rename_i e; cases e
      · rename_i e; cases e
      · injection h1 with h1; subst h1
        exact run_equalIn_string W (D+d) t _ _ hk
      · cases h1
    · rename_i n e hk
      split at h
      case h_2=>cases h
      rename_i l hl
      split at h
      case h_2=>cases h
      rename_i m hm
      split at h
      case isFalse=>cases h
      rename_i hlm
      injection h with h; subst h
      refine⟨fun _=>?_,fun hg=>by simp[isAggT,hk] at hg⟩
      obtain⟨i,hi⟩:∃ i,P.info? e=some i:=by
        cases hi:P.info? e with
        | none=>simp[szT,hi] at hm
        | some i=>exact⟨i,rfl⟩
      have hc:P.cellsOf e=l.length:=by
        have:szT P e=some (P.cellsOf e):=by simp[szT,hi,Program.cellsOf]
        rw[this] at hm; injection hm with hm; rw[hm,hlm]
      show (Op.equalIn ((D+d)+1) t _ _).run P W=_
      rw[run_equalIn_array W (D+d) us.toArray ws.toArray hk hi,hc,List.range_eq_range']
      exact eqIt_run (zj6z d e l D hl) (eqKs_und hl) (by rw[hm,hlm]) n 0 W us ws r (by simpa using he)
    · rename_i fs hk
      split at h
      case h_1=>cases h
      rename_i hst
      split at h
      case h_2=>cases h
      rename_i hall
      refine⟨fun _=>?_,fun hg=>by simp[isAggT,hk] at hg⟩
      have hfs:P.fieldsOf t=fs:=by simp[Program.fieldsOf,hk]
      show (Op.equalIn ((D+d)+1) t _ _).run P W=_
      rw[run_equalIn_struct W (D+d) t us.toArray ws.toArray (by rw[hfs]; exact hk) hst,hfs]
      refine eqFs_run fs.toList 0 ks h ?_ W us ws r (by simpa using he)
      intro x hx l hl
      have:=List.all_eq_true.1 hall x hx
      simp only[hl] at this
      split at this
      · rename_i l' m e1 e2
        injection e1 with e1; subst e1
        exact⟨zj6z d x.type l D hl,eqKs_und hl,by rw[e2,(by simpa using this:l.length=m)]⟩
      · cases this
    · cases h

variable {E:Env} {s:SS} {K:SV→List SO→Prop} {o:Oper} {a:Act} {W:World}

theorem s_eqa {neg : Bool} {t t' : TypeId} {ks : List CK} {x y : Operand} (hk : eqKs P 6 t = some ks) (hg : P.eqGuardType P.depth t = false) (hagg : isAggT P t = true) (ho : o.op = .binOp (if neg then .neq else .eql) t x y t') (rep : Rep E s a W) (h : xk E s K (.eqa neg ks x y)) :
    ResP P s K o a:=by
  have hx:=rep.ev x
  have hy:=rep.ev y
  simp only[xk] at h
  split at h
  case h_2=>exact h.elim
  rename_i l m e1 e2
  rw[e1] at hx; rw[e2] at hy; simp only[Is] at hx hy
  obtain⟨us,hu,hv⟩:=hx
  obtain⟨ws,hw,hv'⟩:=hy
  split at h
  case h_2=>exact h.elim
  rename_i b hb
  have run:=fun W2=>(zj6z 6 t ks 9994 hk W2 us ws b (eqSV_spec ks l m us ws hb hu hw)).1 hagg
  cases neg with
  | true =>
    refine ResP.mk (v:=.bool (!b)) (fun W2=>?_) h (by simp[Is])
    have:=run W2
    simp[execOp,ho,hv,hv',run_eqGuard_agg W2 _ t x y _ _ hg,run_neq_struct,this]
  | false =>
    refine ResP.mk (v:=.bool b) (fun W2=>?_) h (by simp[Is])
    have:=run W2
    simp[execOp,ho,hv,hv',run_eqGuard_agg W2 _ t x y _ _ hg,run_eql_struct,this]

theorem nilOf_spec {H:List SO} {k:NK} {sv:SV} {v:Value} {b:Bool} (h:nilOf k H sv=some b) (hi:Is H sv v):nilV k v=some b:=by
  unfold nilOf at h
  split at h
  · injection h with h; subst h; simp only[Is] at hi; obtain⟨_,_,rfl⟩:=hi; rfl
  · injection h with h; subst h; simp only[Is] at hi; subst hi; rename_i A _; cases A <;> rfl
  · injection h with h; subst h; simp only[Is] at hi; subst hi; rfl
  · injection h with h; subst h; simp only[Is] at hi; obtain⟨_,_,rfl⟩:=hi; rfl
  · injection h with h; subst h; simp only[Is] at hi; subst hi; rfl
  · rename_i i ver
    split at h
    case h_2=>cases h
    rename_i t ver' sz A n c xs hn
    split at h
    case h_2=>cases h
    rename_i hb
    injection h with h; subst h
    simp only[Is] at hi
    obtain⟨t1,v1,sz1,A1,n1,c1,xs1,he,_,_,hv⟩:=hi
    rw[hn] at he; injection he with he; injection he with e1 e2 e3 e4 e5 e6 e7
    subst e1; subst e2; subst e3; subst e4; subst e5; subst e6; subst e7
    rw[hv (by simpa using hb)]; rfl
  · injection h with h; subst h; simp only[Is] at hi; obtain⟨_,_,rfl⟩:=hi; rfl
  · injection h with h; subst h; simp only[Is] at hi; subst hi; rfl
  · injection h with h; subst h; simp only[Is] at hi; obtain⟨_,_,_,_,rfl⟩:=hi; rfl
  · injection h with h; subst h; simp only[Is] at hi; subst hi; rfl
  · injection h with h; subst h; simp only[Is] at hi; subst hi; rfl
  · cases h

theorem run_isnil {k : NK} {t : TypeId} {td : TypeDesc} (hu : P.underlying t = some td) (hk : nkOf td = some k) {u v : Value} {b : Bool} (hv : nilV k u = some b) (hn : v = nilVal k) (W2 : World) :
    ((Op.equal t u v).run P W2=.ok b W2)∧((Op.equal t v u).run P W2=.ok b W2):=by
  subst hn
  suffices key:∀ d,(Op.equalIn (d+1) t u (nilVal k)).run P W2=.ok b W2∧(Op.equalIn (d+1) t (nilVal k) u).run P W2=.ok b W2 from key 9999
  intro d
  unfold nkOf at hk
  split at hk <;> cases hk <;> cases u <;> simp only[nilV] at hv <;> (try cases hv)
  · rename_i A; cases A <;> simp[Op.equalIn,run_underlying hu,nilVal]
  · rename_i A _ _; cases A <;> simp[Op.equalIn,run_underlying hu,nilVal]
  · rename_i r; cases r <;> simp[Op.equalIn,run_underlying hu,nilVal]
  · simp[Op.equalIn,run_underlying hu,nilVal]
  · simp[Op.equalIn,run_underlying hu,nilVal]

theorem isNilC_eval {k:NK} {y:Operand} (h:isNilC k y=true) (a:Act):a.eval y=nilVal k:=by
  unfold isNilC at h
  split at h
  · rfl
  · rfl
  · rfl
  · rfl
  · cases h

theorem nil_shape {k : NK} {u : Value} {b : Bool} (h : nilV k u = some b) : (∀ x y : Operand, ∀ op, ∀ t, ∀ W2 : World, (eqGuard op t x y u (nilVal k)).run P W2 = .ok () W2 ∧ (eqGuard op t y x (nilVal k) u).run P W2 = .ok () W2) ∧
    (∀ t,binOp .eql t u (nilVal k)=(do pure (.bool (← Op.equal t u (nilVal k))))∧binOp .neq t u (nilVal k)=(do pure (.bool (!(← Op.equal t u (nilVal k))))) ∧
      binOp .eql t (nilVal k) u=(do pure (.bool (← Op.equal t (nilVal k) u)))∧binOp .neq t (nilVal k) u=(do pure (.bool (!(← Op.equal t (nilVal k) u))))):=by
  unfold nilV at h
  split at h <;> (try cases h) <;> refine⟨fun x y op t W2=>?_,fun t=>⟨rfl,rfl,rfl,rfl⟩⟩ <;> cases op <;> constructor <;> simp[eqGuard,nilVal]

theorem s_isnil {neg : Bool} {k : NK} {t t' : TypeId} {td : TypeDesc} {x y : Operand} (hu : P.underlying t = some td) (hk : nkOf td = some k) (hn : isNilC k y = true)
    (ho:o.op=.binOp (if neg then .neq else .eql) t x y t'∨o.op=.binOp (if neg then .neq else .eql) t y x t') (rep:Rep E s a W) (h:xk E s K (.isnil k neg x)):ResP P s K o a:=by
  have hx:=rep.ev x
  simp only[xk] at h
  split at h
  case h_2=>exact h.elim
  rename_i b hb
  have hv:=nilOf_spec hb hx
  have ey:=isNilC_eval hn a
  have run:=fun W2=>run_isnil hu hk hv (rfl:nilVal k=nilVal k) W2
  obtain⟨g1,g2⟩:=nil_shape (P:=P) hv
  cases neg with
  | true =>
    refine ResP.mk (v:=.bool (!b)) (fun W2=>?_) h (by simp[Is])
    obtain⟨r1,r2⟩:=run W2
    rcases ho with ho | ho <;> simp[execOp,ho,ey,(g1 x y .neq t W2).1,(g1 x y .neq t W2).2,(g2 t).2.1,(g2 t).2.2.2,r1,r2]
  | false =>
    refine ResP.mk (v:=.bool b) (fun W2=>?_) h (by simp[Is])
    obtain⟨r1,r2⟩:=run W2
    rcases ho with ho | ho <;> simp[execOp,ho,ey,(g1 x y .eql t W2).1,(g1 x y .eql t W2).2,(g2 t).1,(g2 t).2.2.1,r1,r2]
end
open Go.MapKept (IsKey)

section
theorem inv1_mkmap {P:Program} {op:Op} (h:cmpK1 P op=some .mkmap):∃ t,op=.makeMap t none:=by
  unfold cmpK1 zj16 at h
  repeat' (split at h)
  all_goals first | (cases h; done) | exact⟨_,rfl⟩
theorem inv1_lkup {P:Program} {op:Op} {c:CK} {z:Value} {ok:Bool} {x i:Operand} (h:cmpK1 P op=some (.lkup c z ok x i)):∃ t k e,op=.lookup t x i ok∧P.underlying t=some (.map k e)∧keyK P k=some c∧zeroV P e=some z:=by
  unfold cmpK1 zj16 at h
  repeat' (split at h)
  all_goals first | (cases h; done) | (injection h with h; injection h with h1 h2 h3 h4 h5; subst h1; subst h2; subst h3; subst h4; subst h5; exact⟨_,_,_,rfl,by assumption,by assumption,by assumption⟩)
theorem inv1_mupd {P:Program} {op:Op} {c:CK} {x i v:Operand} (h:cmpK1 P op=some (.mupd c x i v)):∃ t k e,(op=.mapUpdate t x i v∨op=.insert t x i v)∧P.underlying t=some (.map k e)∧keyK P k=some c:=by
  unfold cmpK1 zj16 at h
  repeat' (split at h)
  all_goals first | (cases h; done) | (injection h with h; injection h with h1 h2 h3 h4; subst h1; subst h2; subst h3; subst h4; first | exact⟨_,_,_,.inl rfl,by assumption,by assumption⟩ | exact⟨_,_,_,.inr rfl,by assumption,by assumption⟩)
theorem inv1_mkslc {P:Program} {op:Op} {t:TypeId} {sz bytes:Nat} {z:List Value} {l c:Operand} (h:cmpK1 P op=some (.mkslc t sz bytes z l c)):∃ T,op=.makeSlice T l c∧P.underlying T=some (.slice t)∧szT P t=some sz∧bytesT P t=some bytes∧zeroT P t=some z∧z.length=sz∧0 < sz:=by
  unfold cmpK1 zj16 at h
  repeat' (split at h)
  all_goals first | (cases h; done) | (rename_i hl; injection h with h; injection h with h1 h2 h3 h4 h5 h6; subst h1; subst h2; subst h3; subst h4; subst h5; subst h6; exact⟨_,rfl,by assumption,by assumption,by assumption,by assumption,by simpa using hl,Nat.succ_pos _⟩)
theorem isKey_of' {P:Program} {t:TypeId} {c:CK} (hk:keyK P t=some c) {w:Value} (h:keyIs c w=true):∃ d,P.underlying t=some d∧IsKey d w∧((∃ k,d=.int k∧c=.int k)∨(d=.string∧c=.str)):=by
  unfold keyK at hk
  split at hk
  · rename_i k hu; injection hk with hk; subst hk
    cases w <;> simp[keyIs] at h
    exact⟨_,hu,by simp[IsKey,kEq_eq h],.inl ⟨_,rfl,rfl⟩⟩
  · rename_i hu; injection hk with hk; subst hk
    cases w <;> simp[keyIs] at h
    exact⟨_,hu,by simp[IsKey],.inr ⟨rfl,rfl⟩⟩
  · cases hk
theorem same_key {d:TypeDesc} {c:CK} (hd:(∃ k,d=.int k∧c=.int k)∨(d=.string∧c=.str)) {k q:Value} (hk:keyIs c k=true) (hq:keyIs c q=true):Instr.sameNow d k q=some (keyB k q)∧(keyB k q=true→q=k):=by
  rcases hd with⟨j,rfl,rfl⟩ | ⟨rfl,rfl⟩
  · cases k <;> simp only[keyIs,Bool.false_eq_true] at hk
    cases q <;> simp only[keyIs,Bool.false_eq_true] at hq
    have e1:=kEq_eq hk; have e2:=kEq_eq hq; subst e1; subst e2
    refine⟨by simp[Instr.sameNow,keyB],fun h=>?_⟩
    simp[keyB] at h; rw[h]
  · cases k <;> simp only[keyIs,Bool.false_eq_true] at hk
    cases q <;> simp only[keyIs,Bool.false_eq_true] at hq
    refine⟨by simp[Instr.sameNow,keyB],fun h=>?_⟩
    have h:(_ == _)=true:=h
    rw[MapKept.bytes_beq] at h
    rw[h]

theorem zj70 {d : TypeDesc} {c : CK} (hd : (∃ k, d = .int k ∧ c = .int k) ∨ (d = .string ∧ c = .str)) {w : Value} (hk : keyIs c w = true) : ∀ (es : List MapEntry) (i : Nat), (∀ e ∈ es, keyIs c e.key = true) →
    (mget (es.map fun e=>(e.key,e.val)) w=none∧Instr.findNow d w es i=some none∧(∀ u,mput (es.map fun e=>(e.key,e.val)) w u=(es.map fun e=>(e.key,e.val))++[(w,u)])∧mrem (es.map fun e=>(e.key,e.val)) w=(es.map fun e=>(e.key,e.val))) ∨
    ∃ j e,mget (es.map fun e=>(e.key,e.val)) w=some e.val∧Instr.findNow d w es i=some (some (i+j,e.val))∧es[j]? = some e∧e.key=w ∧
      (∀ u,mput (es.map fun e=>(e.key,e.val)) w u=((es.modify j fun e=>{ e with key:=w,val:=u }).map fun e=>(e.key,e.val)))∧mrem (es.map fun e=>(e.key,e.val)) w=((es.eraseIdx j).map fun e=>(e.key,e.val))
  | [],i,_=>.inl ⟨rfl,rfl,fun _=>rfl,rfl⟩
  | e :: es,i,h=>by
    obtain⟨hs,he⟩:=same_key hd hk (h e (by simp))
    cases hb:keyB w e.key with
    | true =>
      rw[hb] at hs
      exact .inr ⟨0,e,by simp[mget,hb],by simp[Instr.findNow,hs],rfl,he hb,fun u=>by simp[mput,hb],by simp[mrem,hb]⟩
    | false =>
      rw[hb] at hs
      rcases zj70 hd hk es (i+1) (fun x hx=>h x (by simp[hx])) with⟨q1,q2,q3,q4⟩ | ⟨j,e1,q1,q2,q3,q4,q5,q6⟩
      · exact .inl ⟨by simp[mget,hb,q1],by simp[Instr.findNow,hs,q2],fun u=>by simp[mput,hb,q3 u],by simp[mrem,hb,q4]⟩
      · refine .inr ⟨j+1,e1,by simp[mget,hb,q1],?_,by simpa using q3,q4,fun u=>by simp[mput,hb,q5 u],by simp[mrem,hb,q6]⟩
        simp only[Instr.findNow,hs,q2]; congr 3; omega
end

mutual
theorem den_is' {H:List SO}:∀ (s:SV) {u:Value},den H s=some u→Is H s u
  | .unk,_,h=>by simp[den] at h
  | .val _,_,h=>by simp[den] at h; simp[Is,h]
  | .opq _ _,_,h=>by simp[den] at h; simp[Is,h]
  | .bt,_,h=>by simp[den] at h; simp[Is,h]
  | .bf,_,h=>by simp[den] at h; simp[Is,h]
  | .ptr i off,_,h=>by
    simp only[den] at h; split at h
    · rename_i g hg; injection h with h; simp only[Is]; exact⟨g,hg,h.symm⟩
    · cases h
  | .adr A off,_,h=>by simp[den] at h; simp[Is,h]
  | .slc i off n c,_,h=>by
    simp only[den] at h; split at h
    · rename_i g hg; injection h with h; simp only[Is]; exact⟨g,hg,h.symm⟩
    · cases h
  | .own i ver,_,h=>by
    simp only[den] at h; split at h
    · rename_i t ver' sz A n c xs he
      split at h
      · rename_i hb; injection h with h
        have hb:ver'=ver:=by simpa using hb
        simp only[Is]; exact⟨_,_,_,_,_,_,_,he,by omega,⟨_,_,_,h.symm⟩,fun _=>h.symm⟩
      · cases h
    · cases h
  | .oad i ver off,_,h=>by
    simp only[den] at h; split at h
    · rename_i t ver' sz A n c xs he
      split at h
      · rename_i A' hb; injection h with h
        have hb:ver'=ver:=by simpa using hb
        simp only[Is]; exact⟨_,_,_,_,_,_,_,he,by omega,⟨_,h.symm⟩,fun _=>⟨_,rfl,h.symm⟩⟩
      · cases h
    · cases h
  | .mp i,_,h=>by
    simp only[den] at h; split at h
    · rename_i g hg; injection h with h; simp only[Is]; exact⟨g,hg,h.symm⟩
    · cases h
  | .agg l,_,h=>by
    simp only[den] at h; split at h
    · rename_i vs hl; injection h with h; simp only[Is]; exact⟨vs,zj3p l hl,h.symm⟩
    · cases h
  | .tup l,_,h=>by
    simp only[den] at h; split at h
    · rename_i vs hl; injection h with h; simp only[Is]; exact⟨vs,zj3p l hl,h.symm⟩
    · cases h
  | .fn f a b,_,h=>by
    simp only[den] at h; split at h
    · rename_i x y ha hb; injection h with h; simp only[Is]; exact⟨x,y,zj3p a ha,zj3p b hb,h.symm⟩
    · cases h
theorem zj3p {H:List SO}:∀ (l:List SV) {us:List Value},denL H l=some us→IsL H l us
  | [],_,h=>by simp[denL] at h; simp[IsL,h]
  | s :: l,_,h=>by
    simp only[denL] at h; split at h
    · rename_i v vs h1 h2; injection h with h; simp only[IsL]; exact⟨v,vs,den_is' s h1,zj3p l h2,h.symm⟩
    · cases h
end

section
variable {E:Env} {P:Program} {s:SS} {K:SV→List SO→Prop} {o:Oper} {a:Act} {W:World}

theorem run_zv' {t:TypeId} {z:Value} (h:zeroV P t=some z) (W:World):(zeroValue t).run P W=.ok z W:=by
  unfold zeroV at h
  split at h
  · rename_i i hi; simp[zeroValue,typeInfo,hi,h]
  · cases h

theorem mp_spec (rep : Rep E s a W) {x : Operand} {e g : Nat} {l : List (Value × Value)} (e1 : ev s.F x = .mp e) (e2 : nth s.H e = some (.map g l)) :
    a.eval x=.map (some g)∧∃ (es:Array MapEntry) (ck:Nat),W.heap[g]? = some (.map es ck)∧es.toList.map (fun e=>(e.key,e.val))=l∧(es.toList.map (·.born)).Nodup∧∀ e ∈ es.toList,e.born < ck:=by
  have hx:=rep.ev x
  rw[e1] at hx; simp only[Is] at hx
  obtain⟨g',hg,hv⟩:=hx
  have:g'=g:=by simp[blk,e2] at hg; exact hg.symm
  subst this
  exact⟨hv,rep.heap.ents e _ e2⟩

theorem s_mkmap (hc:cmpK1 P o.op=some .mkmap) (rep:Rep E s a W) (h:xk E s K .mkmap):Res E P s K o a W:=by
  obtain⟨t,ho⟩:=inv1_mkmap hc
  simp only[xk] at h
  refine⟨.map (some W.heap.size),W.alloc (.map #[] 0),_,_,.inl ?_,h W.heap.size,?_,HExt.push _ _,?_⟩
  · simp[execOp,ho,Instr.makeMap]
  · simp only[Is]; exact⟨W.heap.size,by rw[blk_eq,nth_eq]; simp[SO.blk],rfl⟩
  · exact rep.heap.push (.map #[] 0) _ rfl ⟨#[],0,heap_alloc_new W _,rfl,by simp,by simp⟩

theorem s_lkup {c:CK} {z:Value} {ok:Bool} {x i:Operand} (hc:cmpK1 P o.op=some (.lkup c z ok x i)) (rep:Rep E s a W) (h:xk E s K (.lkup c z ok x i)):ResR P s K o a W:=by
  obtain⟨t,kt,et,ho,hm,hkk,hz⟩:=inv1_lkup hc
  simp only[xk] at h
  split at h
  case h_2=>exact h.elim
  rename_i e w e1 e2
  split at h
  case h_2=>exact h.elim
  rename_i g l e3 hki
  obtain⟨hall,r,hr,v,hv,hk⟩:=h
  have hi:=rep.ev i
  rw[e2] at hi; simp only[Is] at hi
  obtain⟨hx,es,ck,hb,hl,_⟩:=mp_spec rep e1 e3
  obtain⟨d,hu,hd,hd2⟩:=isKey_of' hkk hki
  have hb':∀ W2,Grow W W2→W2.heap[g]? = some (.map es ck):=fun W2 hg=>by
    rw[hg.block _ (Array.getElem?_eq_some_iff.1 hb).1]; exact hb
  have hall':∀ e ∈ es.toList,keyIs c e.key=true:=fun e he=>hall (e.key,e.val) (by rw[← hl]; exact List.mem_map_of_mem he)
  have hIs:∀ u,den s.H v=some u→Is s.H v u:=fun u hu=>den_is' v hu
  have fin:∀ u b,r.getD z=u→r.isSome=b→Is s.H (lkV ok v r.isSome) (if ok then .tuple #[u,.bool b] else u):=by
    intro u b h1 h2
    rw[h1] at hv
    have:=hIs u hv
    cases ok
    · simpa [lkV] using this
    · simp only[lkV,Is,IsL,if_true]
      exact⟨_,⟨u,[.bool b],this,⟨_,_,rfl,rfl,by rw[h2]⟩,rfl⟩,rfl⟩
  rcases zj70 hd2 hki es.toList 0 hall' with⟨q1,q2,_⟩ | ⟨j,e0,q1,q2,q3,q4,_⟩
  · rw[hl,hr] at q1
    subst q1
    refine⟨_,_,fun W2 hg=>?_,hk,fin _ _ rfl rfl⟩
    simp[execOp,ho,hx,hi,Instr.lookup,run_underlying hm,MapKept.run_getObj_map (hb' W2 hg),MapKept.run_checkKey hu hd,MapKept.run_findKey hu q2,run_zv' hz]
  · rw[hl,hr] at q1
    subst q1
    refine⟨_,_,fun W2 hg=>?_,hk,fin _ _ rfl rfl⟩
    simp[execOp,ho,hx,hi,Instr.lookup,run_underlying hm,MapKept.run_getObj_map (hb' W2 hg),MapKept.run_checkKey hu hd,MapKept.run_findKey hu q2]

theorem HeapOk.mapSet {H : List SO} (hh : HeapOk E H W) {e g : Nat} {l l' : List (Value × Value)} (he : nth H e = some (.map g l)) {es' : Array MapEntry} {ck' : Nat} (h1 : es'.toList.map (fun e => (e.key, e.val)) = l') (h2 : (es'.toList.map (·.born)).Nodup) (h3 : ∀ e ∈ es'.toList, e.born < ck') :
    HExt H (setn H e (.map g l'))∧HeapOk E (setn H e (.map g l')) { W with heap:=W.heap.setIfInBounds g (.map es' ck') }:=by
  obtain⟨es,ck,hb,_⟩:=hh.ents e _ he
  have hx:HExt H (setn H e (.map g l')):=HExt.setBlk he rfl rfl
  have hs:=MapKept.heap_set (o':=.map es' ck') hb
  refine⟨hx,hh.set he hx (fun g' hg'=>.inl hg') (fun g' hne _=>hs.2 g' fun q=>hne (by rw[q]; rfl)) (by simp) rfl rfl rfl ⟨es',ck',hs.1,h1,h2,h3⟩⟩

theorem zj26 (l:List MapEntry) (j:Nat) (w u:Value):(l.modify j fun e=>{ e with key:=w,val:=u }).map (·.born)=l.map (·.born):=by
  apply List.ext_getElem?
  intro i
  simp only[List.getElem?_map,List.getElem?_modify]
  cases l[i]? with
  | none=>rfl
  | some e=>by_cases h:j=i <;> simp[h]

theorem s_mupd {c:CK} {x i v:Operand} (hc:cmpK1 P o.op=some (.mupd c x i v)) (rep:Rep E s a W) (h:xk E s K (.mupd c x i v)):Res E P s K o a W:=by
  obtain⟨t,kt,et,ho,hm,hkk⟩:=inv1_mupd hc
  simp only[xk] at h
  split at h
  case h_2=>exact h.elim
  rename_i e w e1 e2
  split at h
  case h_2=>exact h.elim
  rename_i g l u e3 hki hu'
  obtain⟨hall,hk⟩:=h
  have hi:=rep.ev i
  rw[e2] at hi; simp only[Is] at hi
  have hv:a.eval v=u:=den_is _ hu' (rep.ev v)
  obtain⟨hx,es,ck,hb,hl,hnd,hck⟩:=mp_spec rep e1 e3
  obtain⟨d,hu,hd,hd2⟩:=isKey_of' hkk hki
  have hall':∀ e ∈ es.toList,keyIs c e.key=true:=fun e he=>hall (e.key,e.val) (by rw[← hl]; exact List.mem_map_of_mem he)
  have hf0:(Instr.checkKey false 10000 kt w).run P W=.ok () W:=MapKept.run_checkKey hu hd false 9999
  rcases zj70 hd2 hki es.toList 0 hall' with⟨q1,q2,q3,_⟩ | ⟨j,e0,q1,q2,q3,q4,q5,_⟩
  · obtain ⟨hx', hh⟩ := rep.heap.mapSet (l' := mput l w u) e3 (es' := es.push { key := w, val := u, born := ck }) (ck' := ck + 1)
      (by rw [← hl, q3 u]; simp) (by simp only [Array.toList_push, List.map_append, List.map_cons, List.map_nil]
                                     rw[List.nodup_append]
                                     refine⟨hnd,by simp,?_⟩
                                     intro b hb b' hb' e
                                     obtain⟨x,hx,rfl⟩:=List.mem_map.1 hb
                                     simp only[List.mem_singleton] at hb'; subst hb'
                                     have:=hck x hx; omega)
      (by intro x hx
          simp only[Array.toList_push,List.mem_append,List.mem_singleton] at hx
          rcases hx with hx | rfl
          · have:=hck x hx; omega
          · simp)
    refine⟨undef,_,_,_,.inr ⟨?_,rfl⟩,hk,by simp[Is],hx',hh⟩
    rcases ho with ho | ho <;> simp[execOp,ho,hx,hi,hv,Instr.mapUpdate,run_underlying hm,MapKept.run_getObj_map hb,hf0,MapKept.run_findKey hu q2,MapKept.run_setObj_map _ hb]
  · rw[Nat.zero_add] at q2
    have hm2:(es.modify j fun e=>{ e with key:=w,val:=u }).toList=es.toList.modify j fun e=>{ e with key:=w,val:=u }:=by simp
    obtain⟨hx',hh⟩:=rep.heap.mapSet (l':=mput l w u) e3 (es':=es.modify j fun e=>{ e with key:=w,val:=u }) (ck':=ck)
      (by rw[hm2,← hl,q5 u]) (by rw[hm2,zj26]; exact hnd)
      (by intro x hx
          rw[hm2] at hx
          have:x.born ∈ (es.toList.modify j fun e=>{ e with key:=w,val:=u }).map (·.born):=List.mem_map_of_mem hx
          rw[zj26] at this
          obtain⟨y,hy,e⟩:=List.mem_map.1 this
          rw[← e]; exact hck y hy)
    have q3':es[j]? = some e0:=by simpa using q3
    refine⟨undef,_,_,_,.inr ⟨?_,rfl⟩,hk,by simp[Is],hx',hh⟩
    rcases ho with ho | ho <;> simp[execOp,ho,hx,hi,hv,Instr.mapUpdate,run_underlying hm,MapKept.run_getObj_map hb,hf0,MapKept.run_findKey hu q2,q3',q4,MapKept.run_keyThatStays hd,MapKept.run_setObj_map _ hb]

theorem zj14:∀ (c:Nat) (z:List Value),(repN c z).length=c*z.length
  | 0,z=>by simp[repN]
  | c+1,z=>by simp[repN,zj14 c z,Nat.add_mul,Nat.add_comm]
theorem zj71:∀ (c:Nat) (z:List Value) (j:Nat),j < c*z.length→(repN c z)[j]? = z[j % z.length]?
  | 0,z,j,h=>by simp at h
  | c+1,z,j,h=>by
    simp only[repN]
    by_cases hj:j < z.length
    · rw[List.getElem?_append_left hj,Nat.mod_eq_of_lt hj]
    · have hj:z.length≤j:=by omega
      rw[List.getElem?_append_right hj,zj71 c z _ (by rw[Nat.add_mul] at h; omega)]
      rw[Nat.mod_eq_sub_mod hj]
theorem made_repN (z:Array Value) (c:Nat) (hz:0 < z.size):(madeCells z (c*z.size)).toList=repN c z.toList:=by
  apply List.ext_getElem?
  intro j
  by_cases hj:j < c*z.size
  · rw[zj71 c z.toList j (by simpa using hj)]
    have hm:j % z.size < z.size:=Nat.mod_lt _ hz
    simp[madeCells,hj,hm]
  · have h1:(repN c z.toList).length=c*z.size:=by simpa using zj14 c z.toList
    rw[List.getElem?_eq_none (by simp[madeCells]; omega),List.getElem?_eq_none (by omega)]
theorem repN_take (z:List Value):∀ (l c:Nat),l≤c→(repN c z).take (l*z.length)=repN l z
  | 0,c,_=>by simp[repN]
  | l+1,0,h=>by omega
  | l+1,c+1,h=>by
    have e:(l+1)*z.length=z.length+l*z.length:=by rw[Nat.add_mul]; omega
    simp only[repN]
    rw[e,List.take_append,List.take_of_length_le (by omega)]
    congr 1
    rw[show z.length+l*z.length - z.length=l*z.length by omega]
    exact repN_take z l c (by omega)

theorem s_mkslc {t:TypeId} {sz bytes:Nat} {z:List Value} {y1 y2:Operand} (hc:cmpK1 P o.op=some (.mkslc t sz bytes z y1 y2)) (rep:Rep E s a W) (h:xk E s K (.mkslc t sz bytes z y1 y2)):Res E P s K o a W:=by
  obtain⟨T,ho,hT,hsz,hby,hz,hzl,h0⟩:=inv1_mkslc hc
  simp only[xk] at h
  split at h
  case h_2=>exact h.elim
  rename_i k1 n k2 m e1 e2
  obtain⟨⟨b0,b1,b2,b3⟩,hk⟩:=h
  have hv1:=rep.ev y1; have hv2:=rep.ev y2
  rw[e1] at hv1; rw[e2] at hv2
  simp only[Is] at hv1 hv2
  unfold szT at hsz; unfold bytesT at hby; unfold zeroT at hz
  cases hi:P.info? t with
  | none=>rw[hi] at hsz; cases hsz
  | some inf =>
  rw[hi] at hsz hby hz
  simp only[Option.map_some,Option.some.injEq] at hsz hby
  subst hby
  dsimp only at hz
  split at hz
  case h_2=>cases hz
  rename_i zv hzv
  injection hz with hz
  have hzs:zv.cells.size=sz:=by rw[← hzl,← hz]; simp
  have hrun:=run_make (P:=P) W T t inf zv hT hi hzv k1 k2 n m (by omega) (by omega) b2 (by omega)
  have hcs:(madeCells zv.cells (m.toNat*sz)).toList=repN m.toNat z:=by
    have:=made_repN zv.cells m.toNat (by omega)
    rw[hzs,hz] at this; exact this
  rw[hsz] at hrun
  have hex:(execOp a.eval o).run P W=.ok (.value (.slice (some ⟨W.heap.size,0,none⟩) n.toNat m.toNat)) (W.alloc (.cells (madeCells zv.cells (m.toNat*sz)) t)):=by
    simp only[execOp,ho,hv1,hv2]
    simp[hrun]
  have hmc:madeCells zv.cells (m.toNat*sz)=(repN m.toNat z).toArray:=by rw[← hcs]
  rw[hmc] at hex
  have hnm:n.toNat≤m.toNat:=by omega
  refine⟨_,_,_,_,.inl hex,hk W.heap.size,?_,HExt.push _ _,?_⟩
  · simp only[Is]
    exact⟨t,0,sz,some ⟨W.heap.size,0,none⟩,n.toNat,m.toNat,repN n.toNat z,by rw[nth_eq]; simp,Nat.le_refl _,⟨_,_,_,rfl⟩,fun _=>rfl⟩
  · refine rep.heap.push _ (.own t 0 sz (some ⟨W.heap.size,0,none⟩) n.toNat m.toNat (repN n.toNat z)) rfl ⟨by rw[zj14,hzl],.inr ⟨W.heap.size,0,(repN m.toNat z).toArray,rfl,heap_alloc_new W _,hnm,by simp[maxLen]; omega,by simp[zj14,hzl],?_⟩⟩
    have:=repN_take z n.toNat m.toNat hnm
    rw[hzl] at this
    simpa using this
theorem inv1_str0 {P:Program} {op:Op} {x v:Operand} (h:cmpK1 P op=some (.str0 x v)):∃ t,op=.store t x v∧szT P t=some 0:=by
  unfold cmpK1 zj16 at h
  repeat' (split at h)
  all_goals first | (cases h; done) | (injection h with h; injection h with h1 h2; subst h1; subst h2; exact⟨_,rfl,by assumption⟩)
theorem s_str0 {x v:Operand} (hc:cmpK1 P o.op=some (.str0 x v)) (rep:Rep E s a W) (h:xk E s K (.str0 x v)):Res E P s K o a W:=by
  obtain⟨t,ho,hz⟩:=inv1_str0 hc
  have hx:=rep.ev x
  have hv:=rep.ev v
  simp only[xk] at h
  split at h
  case h_2=>exact h.elim
  rename_i e1 e2
  rw[e1] at hx; rw[e2] at hv
  simp only[Is] at hx hv
  obtain⟨vs,hl,hv⟩:=hv
  simp only[IsL] at hl
  subst hl
  obtain⟨g,hg,hx⟩:=hx
  refine⟨undef,W,_,_,.inr ⟨?_,rfl⟩,h,by simp[Is],HExt.refl _,rep.heap⟩
  have hc0:(a.eval v).cells=#[]:=by rw[hv]; rfl
  simp[execOp,ho,hx,Instr.storeAt,Instr.sureAddr,storeVar,zj0d hz,hc0,storeCells]

end

theorem inv_lkupA {P:Program} {op:Op} {c:List CK} {z:Value} {ok:Bool} {x i:Operand} (h:cmpK1 P op=some (.lkupA c z ok x i)):∃ t k e,op=.lookup t x i ok∧P.underlying t=some (.map k e)∧keyA P k=some c∧zeroV P e=some z:=by
  unfold cmpK1 zj16 at h
  repeat' (split at h)
  all_goals first | (cases h; done) | (injection h with h; injection h with h1 h2 h3 h4 h5; subst h1; subst h2; subst h3; subst h4; subst h5; exact⟨_,_,_,rfl,by assumption,by assumption,by assumption⟩)
theorem inv_mupdA {P:Program} {op:Op} {c:List CK} {x i v:Operand} (h:cmpK1 P op=some (.mupdA c x i v)):∃ t k e,op=.mapUpdate t x i v∧P.underlying t=some (.map k e)∧keyA P k=some c:=by
  unfold cmpK1 zj16 at h
  repeat' (split at h)
  all_goals first | (cases h; done) | (injection h with h; injection h with h1 h2 h3 h4; subst h1; subst h2; subst h3; subst h4; exact⟨_,_,_,rfl,by assumption,by assumption⟩)

section
variable {P:Program}
theorem mapM_flat {d:Nat}:∀ (fs:List Field) (i:Nat) (cks:List CK) (vs:List Value),flatFs P fs i=some cks→fitL cks (vs.drop i)=true→∃ ls,fs.mapM (fun f=>P.keyLits (d+1) f.type ((vs.drop f.offset).take (P.cellsOf f.type)))=some ls
  | [],_,_,_,_,_=>⟨[],rfl⟩
  | f :: fs,i,cks,vs,h,hf=>by
    simp only[flatFs] at h
    split at h
    case h_2=>cases h
    rename_i c l h1 h2 h3 h4
    injection h with h; subst h
    have h1:=Nat.eq_of_beq_eq_true h1; have h2:=Nat.eq_of_beq_eq_true h2
    cases e:vs.drop i with
    | nil=>rw[e] at hf; simp[fitL] at hf
    | cons v r =>
      rw[e] at hf
      simp only[fitL] at hf
      split at hf
      case h_2=>cases hf
      rename_i hv
      have er:vs.drop (i+1)=r:=by
        rw[← List.drop_drop,e]; rfl
      obtain⟨ls,hls⟩:=mapM_flat (d:=d) fs (i+1) l vs h4 (by rw[er]; exact hf)
      have hone:∃ x,P.keyLits (d+1) f.type ((vs.drop f.offset).take (P.cellsOf f.type))=some x:=by
        rw[h1,h2,e]
        show ∃ x,P.keyLits (d+1) f.type [v]=some x
        unfold Program.keyLits
        unfold flatK at h3
        split at h3
        · rename_i k hu
          injection h3 with h3; subst h3
          cases v <;> simp only[fitC,Bool.false_eq_true] at hv
          split at hv
          case h_2=>cases hv
          rename_i e1
          rw[hu,kEq_eq e1]
          exact⟨_,if_pos ⟨rfl,hv⟩⟩
        · rename_i hu
          injection h3 with h3; subst h3
          cases v <;> simp only[fitC,Bool.false_eq_true] at hv
          rw[hu]
          exact⟨_,if_pos (Nat.le_of_ble_eq_true hv)⟩
        · rename_i hu
          injection h3 with h3; subst h3
          cases v <;> simp only[fitC,Bool.false_eq_true] at hv
          rw[hu]
          exact⟨_,rfl⟩
        · cases h3
      obtain⟨x,hx⟩:=hone
      refine⟨x :: ls,?_⟩
      rw[List.mapM_cons,hx,hls]; rfl
structure KeyAOk (P:Program) (t:TypeId) (cs:List CK):Prop where
  law:WideMaps.KeyLaw P t
  wide:(match P.underlying t with | some (.array _ _) | some (.struct _)=>true | _=>false)=true
  typ:P.keyTypeAt 3 t=true
  lit:∀ v,fitV cs v=true→∃ l,keyOf P t v=some l
theorem keyA_ok {t:TypeId} {cs:List CK} (h:keyA P t=some cs):KeyAOk P t cs:=by
  unfold keyA at h
  split at h
  case h_2=>cases h
  rename_i fs hu
  split at h
  case h_2=>cases h
  rename_i l h1 h2 h3 h4 h5
  split at h
  case h_2=>cases h
  rename_i h6
  injection h with h; subst h
  have h6:=Nat.eq_of_beq_eq_true h6
  have h5:=Nat.le_of_ble_eq_true h5
  have hw:(match P.underlying t with | some (.array _ _) | some (.struct _)=>true | _=>false)=true:=by rw[hu]
  refine⟨deep_law (m:=3) (by omega) h2 h3 hw,hw,h2,fun v hv=>?_⟩
  unfold fitV at hv
  split at hv
  case h_2=>cases hv
  rename_i vs0
  obtain⟨vs⟩:=vs0
  have hlen:∀ {cs:List CK} {vs:List Value},fitL cs vs=true→vs.length=cs.length:=by
    intro cs
    induction cs with
    | nil=>intro vs h; cases vs <;> simp[fitL] at h ⊢
    | cons c cs ih =>
      intro vs h
      cases vs with
      | nil=>simp[fitL] at h
      | cons v vs =>
        simp only[fitL] at h
        split at h
        · simp[ih h]
        · cases h
  have hl:=hlen hv
  obtain⟨n,hn⟩:∃ n,P.types.size=n+1:=⟨P.types.size - 1,by omega⟩
  obtain⟨ls,hls⟩:=mapM_flat (P:=P) (d:=n) fs.toList 0 l vs h1 (by simpa using hv)
  have hnames : fs.all (·.name != "_") = true := by
    unfold Program.keyTypeAt at h2
    rw[hu] at h2
    simp only[Bool.and_eq_true] at h2
    have:=h2.1.1
    rw[Array.all_eq_true_iff_forall_mem] at this ⊢
    intro f hf
    have:=this f hf
    simp only[Bool.and_eq_true] at this
    exact this.1
  have hform:(Value.agg ⟨vs⟩).formed P t=true:=by
    unfold Value.formed
    rw[hu]
    show (Array.size ⟨vs⟩ == P.cellsOf t)=true
    rw[h6,← hl]; simp
  unfold keyOf
  rw[hu]
  simp only
  rw[h4,hform]
  simp only[Bool.and_self,if_true]
  have hk:P.keyLits (P.types.size+1) t (Value.agg ⟨vs⟩).cells.toList=some ls.flatten:=by
    rw[hn]
    unfold Program.keyLits
    rw[hu]
    show (if vs.length = P.cellsOf t ∧ fs.all (·.name != "_") = true then (fs.toList.mapM fun f => P.keyLits (n + 1) f.type ((vs.drop f.offset).take (P.cellsOf f.type))).map List.flatten else none) = _
    rw[if_pos ⟨by rw[h6,hl],hnames⟩,hls]; rfl
  rw[hk]
  exact⟨_,rfl⟩


variable {E:Env} {s:SS} {K:SV→List SO→Prop} {o:Oper} {a:Act} {W:World}
theorem zj3g {t:TypeId} {cs:List CK} (K:KeyAOk P t cs) (k:Value) (es:List MapEntry) (W2:World):(Instr.findKey t k es).run P W2=(Instr.findAsking t k es).run P W2:=run_findKey_eq W2 K.wide k es
theorem zj3q {t : TypeId} {cs : List CK} (K : KeyAOk P t cs) {w : Value} (hk : fitV cs w = true) (W2 : World) : ∀ (es : List MapEntry) (i : Nat) {r : Option Value}, (∀ e ∈ es, fitV cs e.key = true) → GetA (es.map fun e => (e.key, e.val)) w r →
    (r=none∧(Instr.findAsking t w es i).run P W2=.ok none W2∧∀ u l',PutA (es.map fun e=>(e.key,e.val)) w u l'→l'=es.map (fun e=>(e.key,e.val))++[(w,u)]) ∨
    ∃ j e,es[j]? = some e∧e.key=w∧r=some e.val∧(Instr.findAsking t w es i).run P W2=.ok (some (i+j,e.val)) W2∧∀ u l',PutA (es.map fun e=>(e.key,e.val)) w u l'→l'=(es.modify j fun e=>{ e with key:=w,val:=u }).map fun e=>(e.key,e.val)
  | [],i,r,_,h=>by
    simp only[List.map_nil,GetA] at h
    exact .inl ⟨h,by simp[Instr.findAsking],fun u l' h=>by simpa [PutA] using h⟩
  | e :: es,i,r,hf,h=>by
    obtain⟨lw,hlw⟩:=K.lit w hk
    obtain⟨lq,hlq⟩:=K.lit e.key (hf e (by simp))
    obtain⟨b,hb,hiff⟩:=run_equal_deep (P:=P) W2 (m:=3) (by omega) K.typ K.wide hlw hlq
    simp only[List.map_cons,GetA] at h
    rcases h with⟨hwq,hr⟩ | ⟨hwq,h⟩
    · have hbt:b=true:=hiff.2 (by rw[← hwq] at hlq; rw[hlw] at hlq; injection hlq)
      subst hbt
      refine .inr ⟨0,e,rfl,hwq.symm,hr,by simp[Instr.findAsking,hb],fun u l' hp=>?_⟩
      simp only[List.map_cons,PutA] at hp
      rcases hp with⟨_,rfl⟩ | ⟨h1,_⟩
      · simp
      · exact absurd hwq h1
    · have hbf : b = false := by
        cases b with
        | false=>rfl
        | true =>
          have:=hiff.1 rfl
          rw[this] at hlw
          exact absurd (K.law.inj hlw hlq) hwq
      subst hbf
      rcases zj3q K hk W2 es (i+1) (fun e he=>hf e (by simp[he])) h with⟨q1,q2,q3⟩ | ⟨j,e1,q1,q2,q3,q4,q5⟩
      · refine .inl ⟨q1,by simp[Instr.findAsking,hb,q2],fun u l' hp=>?_⟩
        simp only[List.map_cons,PutA] at hp
        rcases hp with⟨h1,_⟩ | ⟨_,l1,hp,rfl⟩
        · exact absurd h1 hwq
        · rw[q3 u l1 hp]; simp
      · have e3:i+1+j=i+(j+1):=by omega
        refine .inr ⟨j+1,e1,by simpa using q1,q2,q3,by simp[Instr.findAsking,hb,q4,e3],fun u l' hp=>?_⟩
        simp only[List.map_cons,PutA] at hp
        rcases hp with⟨h1,_⟩ | ⟨_,l1,hp,rfl⟩
        · exact absurd h1 hwq
        · rw[q5 u l1 hp]; simp
theorem get_ex:∀ (l:List (Value × Value)) (w:Value),∃ r,GetA l w r
  | [],w=>⟨_,rfl⟩
  | (q,v) :: l,w=>by
    rcases Classical.em (w=q) with h | h
    · exact⟨_,.inl ⟨h,rfl⟩⟩
    · obtain⟨l1,h1⟩:=get_ex l w
      exact⟨l1,.inr ⟨h,h1⟩⟩

theorem s_lkupA {c:List CK} {z:Value} {ok:Bool} {x i:Operand} (hc:cmpK1 P o.op=some (.lkupA c z ok x i)) (rep:Rep E s a W) (h:xk E s K (.lkupA c z ok x i)):ResR P s K o a W:=by
  obtain⟨t,kt,et,ho,hm,hkk,hz⟩:=inv_lkupA hc
  simp only[xk] at h
  split at h
  case h_2=>exact h.elim
  rename_i e w e1 e2
  split at h
  case h_2=>exact h.elim
  rename_i g l e3
  obtain⟨⟨hki,hall⟩,r,hr,v,hv,hk⟩:=h
  have hi:a.eval i=w:=den_is _ e2 (rep.ev i)
  have KK:=keyA_ok hkk
  obtain⟨lk,hlk⟩:=KK.lit w hki
  obtain⟨hx,es,ck,hb,hl,_⟩:=mp_spec rep e1 e3
  have hb':∀ W2,Grow W W2→W2.heap[g]? = some (.map es ck):=fun W2 hg=>by
    rw[hg.block _ (Array.getElem?_eq_some_iff.1 hb).1]; exact hb
  have hall':∀ e ∈ es.toList,fitV c e.key=true:=fun e he=>hall (e.key,e.val) (by rw[← hl]; exact List.mem_map_of_mem he)
  have fin:∀ u b,r.getD z=u→r.isSome=b→Is s.H (lkV ok v r.isSome) (if ok then .tuple #[u,.bool b] else u):=by
    intro u b h1 h2
    rw[h1] at hv
    have:=den_is' v hv
    cases ok
    · simpa [lkV] using this
    · simp only[lkV,Is,IsL,if_true]
      exact⟨_,⟨u,[.bool b],this,⟨_,_,rfl,rfl,by rw[h2]⟩,rfl⟩,rfl⟩
  rw[← hl] at hr
  have key:=fun W2=>zj3q KK hki W2 es.toList 0 hall' hr
  rcases key W with⟨q1,_⟩ | ⟨j,e0,q1,q2,q3,q4,_⟩
  · subst q1
    refine⟨_,_,fun W2 hg=>?_,hk,fin _ _ rfl rfl⟩
    rcases key W2 with⟨_,q2,_⟩ | ⟨j,e0,_,_,q3,_⟩
    · simp[execOp,ho,hx,hi,Instr.lookup,run_underlying hm,MapKept.run_getObj_map (hb' W2 hg),KK.law.check W2 _ hlk,zj3g KK,q2,run_zv' hz]
    · cases q3
  · subst q3
    refine⟨_,_,fun W2 hg=>?_,hk,fin _ _ rfl rfl⟩
    rcases key W2 with⟨q5,_⟩ | ⟨j2,e2,p1,p2,p3,p4,_⟩
    · cases q5
    · have p3:e2.val=e0.val:=by injection p3 with p3; exact p3.symm
      simp[execOp,ho,hx,hi,Instr.lookup,run_underlying hm,MapKept.run_getObj_map (hb' W2 hg),KK.law.check W2 _ hlk,zj3g KK,p4,p3]
theorem s_mupdA {c:List CK} {x i v:Operand} (hc:cmpK1 P o.op=some (.mupdA c x i v)) (rep:Rep E s a W) (h:xk E s K (.mupdA c x i v)):Res E P s K o a W:=by
  obtain⟨t,kt,et,ho,hm,hkk⟩:=inv_mupdA hc
  simp only[xk] at h
  split at h
  case h_2=>exact h.elim
  rename_i e w u e1 e2 hu'
  split at h
  case h_2=>exact h.elim
  rename_i g l e3
  obtain⟨⟨hki,hall⟩,l',hput,hk⟩:=h
  have hi:a.eval i=w:=den_is _ e2 (rep.ev i)
  have hv:a.eval v=u:=den_is _ hu' (rep.ev v)
  have KK:=keyA_ok hkk
  obtain⟨lk,hlk⟩:=KK.lit w hki
  obtain⟨hx,es,ck,hb,hl,hnd,hck⟩:=mp_spec rep e1 e3
  have hall':∀ e ∈ es.toList,fitV c e.key=true:=fun e he=>hall (e.key,e.val) (by rw[← hl]; exact List.mem_map_of_mem he)
  have hf0:(Instr.checkKey false 10000 kt w).run P W=.ok () W:=KK.law.check W false hlk
  obtain⟨r,hr⟩:=get_ex l w
  rw[← hl] at hr hput
  rcases zj3q KK hki W es.toList 0 hall' hr with⟨q1,q2,q3⟩ | ⟨j,e0,q1,q2,q3,q4,q5⟩
  · obtain ⟨hx', hh⟩ := rep.heap.mapSet (l' := l') e3 (es' := es.push { key := w, val := u, born := ck }) (ck' := ck + 1)
      (by rw [q3 u l' hput]; simp) (by simp only [Array.toList_push, List.map_append, List.map_cons, List.map_nil]
                                       rw[List.nodup_append]
                                       refine⟨hnd,by simp,?_⟩
                                       intro b hb b' hb' e
                                       obtain⟨x,hx,rfl⟩:=List.mem_map.1 hb
                                       simp only[List.mem_singleton] at hb'; subst hb'
                                       have:=hck x hx; omega)
      (by intro x hx
          simp only[Array.toList_push,List.mem_append,List.mem_singleton] at hx
          rcases hx with hx | rfl
          · have:=hck x hx; omega
          · simp)
    refine⟨undef,_,_,_,.inr ⟨?_,rfl⟩,hk,by simp[Is],hx',hh⟩
    simp[execOp,ho,hx,hi,hv,Instr.mapUpdate,run_underlying hm,MapKept.run_getObj_map hb,hf0,zj3g KK,q2,MapKept.run_setObj_map _ hb]
  · rw[Nat.zero_add] at q4
    have hm2:(es.modify j fun e=>{ e with key:=w,val:=u }).toList=es.toList.modify j fun e=>{ e with key:=w,val:=u }:=by simp
    obtain⟨hx',hh⟩:=rep.heap.mapSet (l':=l') e3 (es':=es.modify j fun e=>{ e with key:=w,val:=u }) (ck':=ck)
      (by rw[hm2,q5 u l' hput]) (by rw[hm2,zj26]; exact hnd)
      (by intro x hx
          rw[hm2] at hx
          have:x.born ∈ (es.toList.modify j fun e=>{ e with key:=w,val:=u }).map (·.born):=List.mem_map_of_mem hx
          rw[zj26] at this
          obtain⟨y,hy,e⟩:=List.mem_map.1 this
          rw[← e]; exact hck y hy)
    have q3':es[j]? = some e0:=by simpa using q1
    refine⟨undef,_,_,_,.inr ⟨?_,rfl⟩,hk,by simp[Is],hx',hh⟩
    simp[execOp,ho,hx,hi,hv,Instr.mapUpdate,run_underlying hm,MapKept.run_getObj_map hb,hf0,zj3g KK,q4,q3',q2,KK.law.stays W hlk,MapKept.run_setObj_map _ hb]
end
end Go.Sx
