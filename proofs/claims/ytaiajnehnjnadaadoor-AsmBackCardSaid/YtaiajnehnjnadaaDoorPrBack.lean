/- What is printed is assembled as it was: the plain law. -/
import Derived.Test.YtaiajnehnjnadaaDoorIlPlain
set_option linter.unusedSimpArgs false
set_option linter.unusedVariables false
set_option linter.unnecessarySimpa false
namespace Go.Asm
open Go Go.Isa
set_option maxRecDepth 100000
theorem dec_dig (u:Nat):∀ c ∈ Lib.decDigits u,48≤c.toNat∧c.toNat≤57:=fun c h=>Il.dec_digit u c h
theorem dec_len:∀ (d u:Nat),0 < d→u < 10 ^ d→(Lib.decDigits u).length≤d
 | 0,u,h,_=>absurd h (by omega)
 | d+1,u,_,hu=>by
  rw[Lib.decDigits]
  split
  ·simp
  ·cases d with
   | zero=>simp at hu; omega
   | succ d =>
    have:=dec_len (d+1) (u / 10) (by omega) (by rw[Nat.pow_succ] at hu; omega)
    simp; omega
def numC (c:UInt8):Prop:=c=45∨(48≤c.toNat∧c.toNat≤57)
theorem zj1i (n:Int):∀ c ∈ Lib.itoa n,numC c:=by
 intro c hc
 unfold Lib.itoa at hc
 split at hc
 ·rcases List.mem_cons.1 hc with hc | hc
  ·exact .inl hc
  ·exact .inr (dec_dig _ c hc)
 ·exact .inr (dec_dig _ c hc)
theorem dec_snoc (u:Nat):∃ r d,Lib.decDigits u=r++[d]:=by
 rw[Lib.decDigits]
 split
 ·exact⟨[],_,rfl⟩
 ·exact⟨_,_,rfl⟩
theorem zj3q (n:Int):∃ r d,Lib.itoa n=r++[d]∧48≤d.toNat∧d.toNat≤57:=by
 have key:∀ u,∃ r d,Lib.decDigits u=r++[d]∧48≤d.toNat∧d.toNat≤57:=fun u=>by
  obtain⟨r,d,h⟩:=dec_snoc u
  have:=dec_dig u d (by rw[h]; simp)
  exact⟨r,d,h,this⟩
 unfold Lib.itoa
 split
 ·obtain⟨r,d,h,h1⟩:=key n.natAbs
  exact⟨45 :: r,d,by rw[h]; rfl,h1⟩
 ·exact key _
theorem itoa_inj {a b:Nat} (ha:a≤5000) (hb:b≤5000) (h:Lib.itoa (a:Int)=Lib.itoa (b:Int)):a=b:=by
 have h1:=Il.atoi_itoa (n:=(a:Int)) (by omega) (by omega)
 have h2:=Il.atoi_itoa (n:=(b:Int)) (by omega) (by omega)
 rw[h,h2] at h1
 injection h1 with h1
 omega
def lname (i:Int):B:=108 :: Lib.itoa i
theorem lname_inj {a b:Nat} (ha:a≤5000) (hb:b≤5000) (h:lname a=lname b):a=b:=by
 unfold lname at h; injection h with _ h; exact itoa_inj ha hb h
theorem word_get {s:B}:∀ n:Nat,wordN s n=true→∃ m,m < n∧wdL ((m:Int)+1)=s
 | 0,h=>by simp[wordN] at h
 | n+1,h=>by
  simp only[wordN,Bool.or_eq_true,beq_iff_eq] at h
  rcases h with h | h
  ·obtain⟨m,h1,h2⟩:=word_get n h; exact⟨m,by omega,h2⟩
  ·exact⟨n,by omega,h⟩
theorem wd_second:∀ m:Nat,m < 18→((wdL ((m:Int)+1)).getD 1 0).toNat=0∨57 < ((wdL ((m:Int)+1)).getD 1 0).toNat:=by decide
theorem lname_ok (k:Nat) (hk:k≤5000):nameB (lname k)=true:=by
 have hi:Lib.itoa (k:Int)=Lib.decDigits k:=by unfold Lib.itoa; rw[if_neg (by omega)]; rfl
 have hl:=dec_len 4 k (by omega) (by omega)
 have hd:=dec_dig k
 obtain⟨r,d,hsn⟩:=dec_snoc k
 unfold lname
 rw[hi]
 have hw:wordB (108 :: Lib.decDigits k)=false:=by
  cases hw:wordB (108 :: Lib.decDigits k) with
  | false=>rfl
  | true =>
   simp only[wordB,Bool.or_eq_true,beq_iff_eq] at hw
   rcases hw with hw | hw
   ·simp[rawW] at hw
   ·obtain⟨m,hm,he⟩:=word_get 18 hw
    have:=wd_second m hm
    rw[he] at this
    cases hc:Lib.decDigits k with
    | nil=>rw[hc] at hsn; simp at hsn
    | cons c t =>
     have hc':=hd c (by rw[hc]; simp)
     rw[hc] at this
     simp at this; omega
 have hall:(108 :: Lib.decDigits k).all nmCh=true:=by
  rw[List.all_eq_true]
  intro c hc
  rcases List.mem_cons.1 hc with rfl | hc
  ·rfl
  ·have:=hd c hc
   unfold nmCh
   simp only[Bool.or_eq_true,Bool.and_eq_true,decide_eq_true_eq]
   exact .inl (.inr this)
 show (decide _ && decide _ && decide _ && _ && _)=true
 rw[hw,hall]
 simp; omega
theorem zj3r:∀ (p:B) {t:B},(∀ c ∈ t,c ≠ 32)→lastBl (p++32 :: t)=some p.length
 | [],t,h=>by
  have hn:lastBl t=none:=by
   induction t with
   | nil=>rfl
   | cons c t ih =>
    unfold lastBl
    rw[ih fun c hc=>h c (List.mem_cons_of_mem _ hc)]
    simp only
    rw[if_neg (h c (by simp))]
  show lastBl (32 :: t)=_
  unfold lastBl; rw[hn]; rfl
 | c :: p,t,h=>by
  show lastBl (c :: (p++32 :: t))=_
  unfold lastBl
  rw[zj3r p h]; rfl
theorem zj5a {t:B} (h:∀ c ∈ t,numC c):∀ c ∈ t,c ≠ 32:=by
 intro c hc e
 subst e
 rcases h _ hc with h | h
 ·exact absurd h (by decide)
 ·exact absurd h.1 (by decide)
def NumEnd (s:B):Prop:=lastBl s=none∨∃ k z,lastBl s=some k∧s.drop (k+1)=Lib.itoa z
theorem numEnd_app (s:B) (z:Int):NumEnd (s++32 :: Lib.itoa z):=by
 refine .inr ⟨s.length,z,zj3r s (zj5a (zj1i z)),?_⟩
 rw[show s++32 :: Lib.itoa z=(s++[32])++Lib.itoa z by simp,List.drop_append_of_le_length (by simp)]
 simp
theorem zj2l (x:In):∀ (nm s:B),NumEnd s→NumEnd (s++argL x nm)
 | [],s,h=>by simpa [argL] using h
 | c :: nm,s,h=>by
  have:=zj2l x nm (s++32 :: Lib.itoa (fld x c.toNat)) (numEnd_app _ _)
  rw[List.append_assoc] at this
  exact this
theorem wds_end:∀ w ∈ wds,lastBl w=none:=by decide
theorem wd_end (op:Int):lastBl (wdL op)=none:=by
 unfold wdL
 rw[List.getD_eq_getElem?_getD]
 cases e:wds[op.toNat]? with
 | none=>rfl
 | some v=>exact wds_end v (List.mem_of_getElem? e)
theorem text_end (x:In):NumEnd (textL x):=by
 unfold textL
 split
 ·exact zj2l x _ _ (.inl (wd_end _))
 ·exact zj2l x _ _ (.inl (by decide))
structure Tx (s:B):Prop where
 hd:∃ c r,s=c :: r∧97≤c.toNat∧c.toNat≤122
 la:∃ r d,s=r++[d]∧((48≤d.toNat∧d.toNat≤58)∨(97≤d.toNat∧d.toNat≤122))
 al:∀ c ∈ s,c=32∨c=45∨(48≤c.toNat∧c.toNat≤58)∨(97≤c.toNat∧c.toNat≤122)
theorem Tx.num {s:B} (h:Tx s) (z:Int):Tx (s++32 :: Lib.itoa z):=by
 obtain⟨⟨c,r,rfl,h1⟩,_,h3⟩:=h
 obtain⟨q,d,e,hd⟩:=zj3q z
 refine⟨⟨c,_,rfl,h1⟩,⟨c :: r++32 :: q,d,by rw[e]; simp,.inl (by omega)⟩,fun x hx=>?_⟩
 rcases List.mem_append.1 hx with hx | hx
 ·exact h3 x hx
 ·rcases List.mem_cons.1 hx with hx | hx
  ·exact .inl hx
  ·rcases zj1i z x hx with h | h
   ·exact .inr (.inl h)
   ·exact .inr (.inr (.inl (by omega)))
theorem Tx.lab {s:B} (h:Tx s) (z:Int):Tx (s++32 :: lname z):=by
 obtain⟨⟨c,r,rfl,h1⟩,_,h3⟩:=h
 obtain⟨q,d,e,hd⟩:=zj3q z
 refine⟨⟨c,_,rfl,h1⟩,⟨c :: r++32 :: 108 :: q,d,by rw[lname,e]; simp,.inl (by omega)⟩,fun x hx=>?_⟩
 rcases List.mem_append.1 hx with hx | hx
 ·exact h3 x hx
 ·rcases List.mem_cons.1 hx with hx | hx
  ·exact .inl hx
  ·rcases List.mem_cons.1 hx with hx | hx
   ·exact .inr (.inr (.inr (by subst hx; decide)))
   ·rcases zj1i z x hx with h | h
    ·exact .inr (.inl h)
    ·exact .inr (.inr (.inl (by omega)))
theorem Tx.arg (x:In):∀ (nm:B) {s:B},Tx s→Tx (s++argL x nm)
 | [],s,h=>by simpa [argL] using h
 | c :: nm,s,h=>by
  have:=Tx.arg x nm (h.num (fld x c.toNat))
  rw[List.append_assoc] at this
  exact this
theorem tx_of {s:B} (h:s ≠ []∧∀ c ∈ s,97≤c.toNat∧c.toNat≤122):Tx s:=by
 obtain⟨h0,h1⟩:=h
 refine⟨?_,?_,fun c hc=>.inr (.inr (.inr (h1 c hc)))⟩
 ·cases s with
  | nil=>exact absurd rfl h0
  | cons c r=>exact⟨c,r,rfl,h1 c (by simp)⟩
 ·have e:=List.dropLast_concat_getLast h0
  exact⟨_,_,e.symm,.inr (h1 _ (List.getLast_mem h0))⟩
theorem wd_tx:∀ m:Nat,m < 18→wdL ((m:Int)+1) ≠ []∧∀ c ∈ wdL ((m:Int)+1),97≤c.toNat∧c.toNat≤122:=by decide
theorem tx_wd {op:Int} (h:isOp op=true):Tx (wdL op):=by
 have hr:1≤op∧op≤18:=by rw[isOp,Bool.and_eq_true] at h; exact⟨of_decide_eq_true h.1,of_decide_eq_true h.2⟩
 have:=wd_tx (op.toNat - 1) (by omega)
 rw[show ((op.toNat - 1:Nat):Int)+1=op by omega] at this
 exact tx_of this
theorem tx_text (x:In):Tx (textL x):=by
 unfold textL
 split
 ·rename_i hp
  refine Tx.arg x _ (tx_wd ?_)
  have hl:legalB x=true:=by rw[plainB,Bool.and_eq_true] at hp; exact hp.1
  simp only[legalB,Bool.and_eq_true] at hl
  exact hl.1.1.1
 ·exact Tx.arg x _ (tx_of (by decide))
theorem not_told {s:B} (h:∃ r d,s=r++[d]∧d ≠ 58):toldL s=none:=by
 obtain⟨r,d,rfl,hd⟩:=h
 unfold toldL
 rw[if_neg]
 rintro ⟨h1,_⟩
 unfold Lib.hasSuffix at h1
 rw[List.isSuffixOf_iff_suffix] at h1
 obtain⟨t,ht⟩:=h1
 have:=congrArg List.getLast? ht
 simp at this
 exact hd this.symm
theorem is_told (k:Nat) (hk:k≤5000):toldL (lname k++[58])=some (lname k):=by
 unfold toldL
 rw[if_pos ⟨by unfold Lib.hasSuffix; rw[List.isSuffixOf_iff_suffix]; exact⟨_,rfl⟩,by rw[List.dropLast_concat]; exact lname_ok k hk⟩,List.dropLast_concat]
theorem zj20 {x:In} {n:Nat} (h:tgtB x n=true):∃ pre:B,Tx pre∧textL x=pre++32 :: Lib.itoa x.imm∧textL { x with imm:=0 }=pre++[32,48]∧(∀ t,Lib.hasPrefix (pre++t) rawW=false)∧goOp x.op=true∧legalB x=true∧0≤x.imm∧x.imm≤n:=by
 unfold tgtB at h
 simp only[Bool.and_eq_true,Bool.not_eq_true',decide_eq_true_eq] at h
 obtain⟨hg,hl,hi,hn,hr⟩:=h
 have hp:plainB x=true:=by
  cases hp:plainB x with
  | true=>rfl
  | false =>
   unfold textL at hr
   rw[hp,if_neg (by simp)] at hr
   simp[Lib.hasPrefix,rawW,List.isPrefixOf] at hr
 have hp0:plainB { x with imm:=0 }=true:=by
  have e:plainB { x with imm:=0 }=(legalB x && (ok1 x 65 && ok1 x 66 && ok1 x 67 && (hasL x.op 73 || (0:Int) == 0))):=rfl
  rw[e]
  simp only[plainB,Bool.and_eq_true] at hp
  obtain⟨a,⟨⟨b,c⟩,d⟩,_⟩:=hp
  simp[a,b,c,d]
 have hi0:Lib.itoa 0=[48]:=by unfold Lib.itoa; rw[if_neg (by omega)]; rw[Lib.decDigits]; rfl
 have ht:textL x=wdL x.op++argL x (nmL x.op):=by unfold textL; rw[if_pos hp]
 have ht0:textL { x with imm:=0 }=wdL x.op++argL { x with imm:=0 } (nmL x.op):=by unfold textL; rw[if_pos hp0]
 have hop:isOp x.op=true:=by
  have:=hl
  simp only[legalB,Bool.and_eq_true] at this
  exact this.1.1.1
 have hw:=tx_wd hop
 refine⟨wdL x.op++argL x (nmL x.op).dropLast,hw.arg x _,?_,?_,?_,hg,hl,hi,hn⟩
 ·rw[ht]
  rcases zj59 hg with h | h | h | h <;> rw[h] <;> simp[nmL,argL,fld]
 ·rw[ht0]
  rcases zj59 hg with h | h | h | h <;> rw[h] <;> simp[nmL,argL,fld,hi0]
 ·intro t
  rcases zj59 hg with h | h | h | h <;> rw[h] <;> simp[Lib.hasPrefix,rawW,wdL,wds,List.isPrefixOf]
def insL (n:Nat) (x:In):B:=if tgtB x n=true then upTo (textL x)++lname x.imm else textL x
def prL1 (n:Nat) (x:In):In × B:=if tgtB x n=true then ({ x with imm:=0 },lname x.imm) else (x,[])
theorem ins_tgt {x:In} {n:Nat} {pre:B} (h:tgtB x n=true) (hp:textL x=pre++32 :: Lib.itoa x.imm):insL n x=pre++32 :: lname x.imm:=by
 unfold insL upTo
 rw[if_pos h,hp,zj3r pre (zj5a (zj1i _))]
 simp only
 rw[show pre++32 :: Lib.itoa x.imm=(pre++[32])++Lib.itoa x.imm by simp,List.take_append_of_le_length (by simp),List.take_of_length_le (by simp)]
 simp
theorem tx_ins (x:In) (n:Nat):Tx (insL n x):=by
 by_cases h:tgtB x n=true
 ·obtain⟨pre,h1,h2,_⟩:=zj20 h
  rw[ins_tgt h h2]
  exact h1.lab _
 ·unfold insL; rw[if_neg h]; exact tx_text x
theorem ins_last (x:In) (n:Nat):∃ r d,insL n x=r++[d]∧d ≠ 58:=by
 have num:∀ (p:B) (z:Int),∃ r d,p++Lib.itoa z=r++[d]∧d ≠ 58:=fun p z=>by
  obtain⟨q,d,e,h1,h2⟩:=zj3q z
  refine⟨p++q,d,by rw[e]; simp,fun e=>?_⟩
  subst e; exact absurd h2 (by decide)
 have arg:∀ (nm s:B),(∃ r d,s=r++[d]∧d ≠ 58)→∃ r d,s++argL x nm=r++[d]∧d ≠ 58:=by
  intro nm
  induction nm with
  | nil=>intro s h; simpa [argL] using h
  | cons c nm ih =>
   intro s h
   have h1:=num (s++[32]) (fld x c.toNat)
   have:=ih _ h1
   rw[List.append_assoc,List.append_assoc] at this
   exact this
 by_cases h:tgtB x n=true
 ·obtain⟨pre,h1,h2,_⟩:=zj20 h
  rw[ins_tgt h h2,show pre++32 :: lname x.imm=(pre++[32,108])++Lib.itoa x.imm by simp[lname]]
  exact num _ _
 ·unfold insL; rw[if_neg h]
  unfold textL
  have base:∀ w:B,(w ≠ []∧∀ c ∈ w,97≤c.toNat∧c.toNat≤122)→∃ r d,w=r++[d]∧d ≠ 58:=fun w hw=>by
   have e:=List.dropLast_concat_getLast hw.1
   refine⟨_,_,e.symm,fun h=>?_⟩
   have:=hw.2 _ (List.getLast_mem hw.1)
   rw[h] at this; exact absurd this.1 (by decide)
  split
  ·rename_i hp
   have hl:legalB x=true:=by rw[plainB,Bool.and_eq_true] at hp; exact hp.1
   have hop:isOp x.op=true:=by
    simp only[legalB,Bool.and_eq_true] at hl
    exact hl.1.1.1
   have hr:1≤x.op∧x.op≤18:=by rw[isOp,Bool.and_eq_true] at hop; exact⟨of_decide_eq_true hop.1,of_decide_eq_true hop.2⟩
   have:=wd_tx (x.op.toNat - 1) (by omega)
   rw[show ((x.op.toNat - 1:Nat):Int)+1=x.op by omega] at this
   exact arg _ _ (base _ this)
  ·exact arg _ _ (base _ (by decide))
theorem one_ins {x:In} {n:Nat} (hx:in64 x) (hn:n≤5000):oneL (insL n x)=some (prL1 n x):=by
 by_cases h:tgtB x n=true
 ·obtain⟨pre,h1,h2,h3,h4,h5,h6,h7,h8⟩:=zj20 h
  have hk:((x.imm.toNat:Nat):Int)=x.imm:=by omega
  have hno:∀ c ∈ lname x.imm,c ≠ 32:=fun c hc=>by
   rcases List.mem_cons.1 hc with rfl | hc
   ·decide
   ·exact zj5a (zj1i _) c hc
  have hlast:=zj3r pre hno
  have hnone:parseL (pre++32 :: lname x.imm)=none:=by
   cases hq:parseL (pre++32 :: lname x.imm) with
   | none=>rfl
   | some y =>
    obtain⟨he,_⟩:=Bk.parse_said hq
    have:=text_end y
    rw[he] at this
    rcases this with e | ⟨k,z,e,ed⟩
    ·rw[hlast] at e; cases e
    ·rw[hlast] at e; injection e with e; subst e
     rw[show pre++32 :: lname x.imm=(pre++[32])++lname x.imm by simp,List.drop_append_of_le_length (by simp),List.drop_of_length_le (by simp)] at ed
     rcases zj1i z 108 (by rw[← ed]; simp[lname]) with h | h
     ·exact absurd h (by decide)
     ·exact absurd h.2 (by decide)
  have hdrop:(pre++32 :: lname x.imm).drop (pre.length+1)=lname x.imm:=by
   rw[show pre++32 :: lname x.imm=(pre++[32])++lname x.imm by simp,List.drop_append_of_le_length (by simp),List.drop_of_length_le (by simp)]; rfl
  have htake:(pre++32 :: lname x.imm).take pre.length=pre:=by simp
  have h64:in64 { x with imm:=0 }:=⟨hx.1,hx.2.1,hx.2.2.1,hx.2.2.2.1,by simp[is64]⟩
  have hpar:parseL (pre++[32,48])=some { x with imm:=0 }:=by rw[← h3]; exact Bk.parse_text h64
  have hnm:nameB (lname x.imm)=true:=by rw[← hk]; exact lname_ok _ (by omega)
  rw[ins_tgt h h2]
  unfold oneL
  rw[hnone]
  simp only[hlast]
  rw[hdrop,htake,if_pos hnm,hpar]
  simp only
  rw[if_pos ⟨h5,h6,h4 _⟩]
  unfold prL1; rw[if_pos h]
 ·unfold insL prL1; rw[if_neg h,if_neg h]
  unfold oneL
  rw[Bk.parse_text hx]
def stepC (st:List (In × B) × List (B × Nat)) (s:B):Option (List (In × B) × List (B × Nat)):=match toldL s with
 | some nm=>if nm ∈ st.2.map (·.1) then none else some (st.1,st.2++[(nm,st.1.length)])
 | none=>match oneL s with
  | none=>none
  | some (x,to)=>if 1024≤st.1.length then none else some (st.1++[(x,to)],st.2)
def unN (l:List Ln):List (In × B):=l.map fun y=>(y.x,y.name)
theorem zj2m:∀ (ls:List (Nat × B)) (l:List Ln) (lb:List (B × Nat)) (r:List (In × B)) (rb:List (B × Nat)),(ls.map (·.2)).foldlM stepC (unN l,lb)=some (r,rb)→∃ L,readL ls l lb=(L,rb,0)∧unN L=r
 | [],l,lb,r,rb,h=>by
  simp only[List.map_nil,List.foldlM_nil,Option.pure_def,Option.some.injEq,Prod.mk.injEq] at h
  obtain⟨h1,h2⟩:=h
  exact⟨l,by rw[← h2]; rfl,h1⟩
 | (n,s) :: ls,l,lb,r,rb,h=>by
  rw[List.map_cons,List.foldlM_cons] at h
  obtain⟨st,h1,h2⟩:=Option.bind_eq_some_iff.1 h
  have hlen:(unN l).length=l.length:=by simp[unN]
  unfold readL
  unfold stepC at h1
  simp only at h1
  split at h1
  ·rename_i nm hnm
   rw[hnm]
   simp only
   split at h1
   ·cases h1
   ·rename_i hno
    injection h1 with h1; subst h1
    rw[if_neg hno]
    rw[hlen] at h2
    exact zj2m ls l _ r rb h2
  ·rename_i hno
   rw[hno]
   simp only
   split at h1
   ·cases h1
   ·rename_i x to hone
    rw[hone]
    simp only
    split at h1
    ·cases h1
    ·rename_i hlt
     injection h1 with h1; subst h1
     rw[if_neg (by rw[← hlen]; exact hlt)]
     exact zj2m ls (l++[⟨n,x,to⟩]) lb r rb (by rw[show unN (l++[⟨n,x,to⟩])=unN l++[(x,to)] by simp[unN]]; exact h2)
def labI (l:List In) (i:Nat):List B:=if mkB l l i=true then [lname i++[58]] else []
def itsL (l:List In):Nat→List B
 | 0=>[]
 | i+1=>(itsL l i++labI l i)++(match l[i]? with | some x=>[insL l.length x] | none=>[])
def fullL (l:List In):List B:=itsL l l.length++labI l l.length
def labsL (l:List In) (i:Nat):List (B × Nat):=((List.range i).filter fun (j:Nat)=>mkB l l (j:Int)).map fun (j:Nat)=>(lname (j:Int),j)
theorem labsL_succ (l:List In) (i:Nat):labsL l (i+1)=labsL l i++(if mkB l l i=true then [(lname i,i)] else []):=by
 unfold labsL
 rw[List.range_succ,List.filter_append,List.map_append]
 congr 1
 by_cases h:mkB l l i=true
 ·rw[if_pos h]; simp[h]
 ·rw[if_neg h]; simp[h]
theorem labsL_no {l:List In} {i:Nat} (hi:i≤5000):lname i ∉ (labsL l i).map (·.1):=by
 intro h
 simp only[labsL,List.map_map,List.mem_map,List.mem_filter,List.mem_range] at h
 obtain⟨j,⟨hj,_⟩,he⟩:=h
 have:=lname_inj (a:=j) (b:=i) (by omega) hi he
 omega
theorem lab_step {l:List In} {i:Nat} (hi:i≤5000) (r:List (In × B)) (hr:r.length=i):(labI l i).foldlM stepC (r,labsL l i)=some (r,labsL l (i+1)):=by
 rw[labsL_succ]
 unfold labI
 by_cases h:mkB l l i=true
 ·rw[if_pos h,if_pos h,List.foldlM_cons]
  unfold stepC
  rw[is_told i hi]
  simp only
  rw[if_neg (labsL_no hi),hr]
  rfl
 ·rw[if_neg h,if_neg h,List.append_nil]; rfl
theorem its_read {l:List In} (hx:∀ x ∈ l,in64 x) (hl:l.length≤1024):∀ i,i≤l.length→(itsL l i).foldlM stepC ([],[])=some ((l.take i).map (prL1 l.length),labsL l i)
 | 0,_=>by simp[itsL,labsL]
 | i+1,hi=>by
  have ih:=its_read hx hl i (by omega)
  have hlt:i < l.length:=by omega
  have hg:l[i]? = some l[i]:=List.getElem?_eq_getElem hlt
  unfold itsL
  rw[List.foldlM_append,List.foldlM_append,ih]
  show (((labI l i).foldlM stepC ((l.take i).map (prL1 l.length),labsL l i)) >>= _)=_
  rw[lab_step (by omega) _ (by simp; omega),hg]
  show ([insL l.length l[i]].foldlM stepC ((l.take i).map (prL1 l.length),labsL l (i+1)))=_
  rw[List.foldlM_cons]
  unfold stepC
  rw[not_told (ins_last _ _),one_ins (hx _ (List.getElem_mem hlt)) (by omega)]
  simp only
  rw[if_neg (by simp; omega),List.take_add_one,hg,List.map_append]
  rfl
theorem full_read {l:List In} (hx:∀ x ∈ l,in64 x) (hl:l.length≤1024):(fullL l).foldlM stepC ([],[])=some (l.map (prL1 l.length),labsL l (l.length+1)):=by
 unfold fullL
 rw[List.foldlM_append,its_read hx hl _ (Nat.le_refl _),List.take_length]
 show (labI l l.length).foldlM stepC (l.map (prL1 l.length),labsL l l.length)=_
 rw[lab_step (by omega) _ (by simp)]
theorem trim_tx {s:B} (h:Tx s):trimBl (cutRem s)=s:=by
 obtain⟨⟨c,r,e,h1⟩,⟨q,d,e2,h2⟩,h3⟩:=h
 have hb:∀ c:UInt8,((48≤c.toNat∧c.toNat≤58)∨(97≤c.toNat∧c.toNat≤122))→isBl c=false:=fun c hc=>by
  unfold isBl
  rw[Bool.or_eq_false_iff]
  refine⟨beq_false_of_ne fun e=>?_,beq_false_of_ne fun e=>?_⟩ <;> subst e <;> revert hc <;> decide
 have hcut:cutRem s=s:=by
  unfold cutRem
  have:∀ t:B,(∀ c ∈ t,c ≠ 59)→t.takeWhile (fun c=>!(c == 59))=t:=by
   intro t
   induction t with
   | nil=>intro _; rfl
   | cons c t ih =>
    intro h
    rw[List.takeWhile_cons,ih fun c hc=>h c (List.mem_cons_of_mem _ hc)]
    have:=h c (by simp)
    simp[this]
  refine this s fun c hc e=>?_
  subst e
  have:=h3 _ hc
  revert this; decide
 rw[hcut]
 have hend:endBl s=s:=by
  unfold endBl
  rw[e2,List.reverse_append]
  show ((d :: q.reverse).dropWhile isBl).reverse=_
  rw[List.dropWhile_cons,hb d h2]
  simp
 unfold trimBl
 rw[hend,e,List.dropWhile_cons,hb c (.inr h1)]
 simp
theorem tx_lab (i:Nat):Tx (lname i++[58]):=by
 refine⟨⟨108,_,rfl,by decide⟩,⟨_,58,rfl,.inl (by decide)⟩,fun c hc=>?_⟩
 rcases List.mem_append.1 hc with hc | hc
 ·rcases List.mem_cons.1 hc with rfl | hc
  ·exact .inr (.inr (.inr (by decide)))
  ·rcases zj1i i c hc with h | h
   ·exact .inr (.inl h)
   ·exact .inr (.inr (.inl (by omega)))
 ·rw[List.mem_singleton.1 hc]; exact .inr (.inr (.inl (by decide)))
theorem its_tx (l:List In):∀ i,∀ s ∈ itsL l i,Tx s
 | 0,s,h=>by cases h
 | i+1,s,h=>by
  unfold itsL at h
  rcases List.mem_append.1 h with h | h
  ·rcases List.mem_append.1 h with h | h
   ·exact its_tx l i s h
   ·unfold labI at h
    split at h
    ·rw[List.mem_singleton.1 h]; exact tx_lab i
    ·cases h
  ·split at h
   ·rw[List.mem_singleton.1 h]; exact tx_ins _ _
   ·cases h
theorem full_tx (l:List In):∀ s ∈ fullL l,Tx s:=by
 intro s h
 unfold fullL at h
 rcases List.mem_append.1 h with h | h
 ·exact its_tx l _ s h
 ·unfold labI at h
  split at h
  ·rw[List.mem_singleton.1 h]; exact tx_lab _
  ·cases h
theorem zj2w:∀ (s acc r:B),(∀ c ∈ s,c ≠ 10)→pieces acc (s++10 :: r)=(acc++s) :: pieces [] r
 | [],acc,r,_=>by
  show (if (10:UInt8)=10 then acc :: pieces [] r else pieces (acc++[10]) r)=_
  rw[if_pos rfl,List.append_nil]
 | c :: s,acc,r,h=>by
  show (if c=10 then acc :: pieces [] (s++10 :: r) else pieces (acc++[c]) (s++10 :: r))=_
  rw[if_neg (h c (by simp)),zj2w s (acc++[c]) r fun c hc=>h c (List.mem_cons_of_mem _ hc)]
  simp
theorem zj2x:∀ ss:List B,(∀ s ∈ ss,Tx s)→pieces [] (ss.flatMap (·++[10]))=ss++[[]]
 | [],_=>rfl
 | s :: ss,h=>by
  have hs:=h s (by simp)
  rw[List.flatMap_cons,List.append_assoc]
  show pieces [] (s++10 :: ss.flatMap (·++[10]))=_
  rw[zj2w s [] _ fun c hc e=>?_,zj2x ss fun s hs=>h s (List.mem_cons_of_mem _ hs)]
  ·rfl
  ·subst e
   have:=hs.al _ hc
   revert this; decide
theorem zj4f:∀ (ss:List B) (n:Nat),(∀ s ∈ ss,Tx s)→(linesF (ss++[[]]) n).map (·.2)=ss
 | [],n,_=>rfl
 | s :: ss,n,h=>by
  have hs:=h s (by simp)
  obtain⟨c,r,e,_⟩:=hs.hd
  have ht:=trim_tx hs
  show (linesF (s :: (ss++[[]])) n).map (·.2)=_
  unfold linesF
  rw[ht,e]
  show (c :: r) :: (linesF (ss++[[]]) (n+1)).map (·.2)=_
  rw[zj4f ss (n+1) fun s hs=>h s (List.mem_cons_of_mem _ hs)]
theorem print_its (l:List In):∀ i,prL l i=(itsL l i).flatMap (·++[10])
 | 0=>rfl
 | i+1=>by
  have hlab:labL l i=(labI l i).flatMap (·++[10]):=by
   unfold labL labI
   split
   ·simp[lname]
   ·rfl
  unfold prL itsL
  rw[print_its l i,hlab,List.flatMap_append,List.flatMap_append]
  congr 1
  cases l[i]? with
  | some x=>simp[linL,insL,lname]
  | none=>rfl
theorem print_full (l:List In):printL l=(fullL l).flatMap (·++[10]):=by
 have hlab:labL l l.length=(labI l l.length).flatMap (·++[10]):=by
  unfold labL labI
  split
  ·simp[lname]
  ·rfl
 unfold printL fullL
 rw[print_its,hlab,List.flatMap_append]
theorem zj2y (l:List In):(linesL (printL l)).map (·.2)=fullL l:=by
 unfold linesL
 rw[print_full,zj2x _ (full_tx l),zj4f _ _ (full_tx l)]
theorem its_lab (l:List In) {k:Nat} (hk:mkB l l k=true):∀ i,k < i→(lname k++[58]) ∈ itsL l i
 | 0,h=>absurd h (Nat.not_lt_zero _)
 | i+1,h=>by
  unfold itsL
  refine List.mem_append_left _ ?_
  by_cases e:k=i
  ·subst e
   refine List.mem_append_right _ ?_
   unfold labI; rw[if_pos hk]; exact List.mem_singleton.2 rfl
  ·exact List.mem_append_left _ (its_lab l hk i (by omega))
theorem full_lab (l:List In) {k:Nat} (hk:mkB l l k=true) (h:k≤l.length):(lname k++[58]) ∈ fullL l:=by
 unfold fullL
 by_cases e:k=l.length
 ·refine List.mem_append_right _ ?_
  subst e; unfold labI; rw[if_pos hk]; exact List.mem_singleton.2 rfl
 ·exact List.mem_append_left _ (its_lab l hk _ (by omega))
theorem zj4g:∀ (js:List Nat) {k:Nat},k ∈ js→(∀ j ∈ js,j≤5000)→place (js.map fun (j:Nat)=>(lname (j:Int),j)) (lname (k:Int))=k
 | [],k,h,_=>by cases h
 | j :: js,k,h,hb=>by
  show (if lname j=lname k then j else place (js.map fun (j:Nat)=>(lname (j:Int),j)) (lname (k:Int)))=k
  by_cases e:j=k
  ·rw[if_pos (by rw[e]),e]
  ·have hk:k≤5000:=hb k h
   rw[if_neg fun h=>e (lname_inj (hb j (by simp)) hk h)]
   rcases List.mem_cons.1 h with h | h
   ·exact absurd h.symm e
   ·exact zj4g js h fun j hj=>hb j (List.mem_cons_of_mem _ hj)
theorem zj4h (told:List B):∀ L:List Ln,(∀ y ∈ L,y.name=[]∨y.name ∈ told)→wrongL told L 0=0
 | [],_=>rfl
 | y :: L,h=>by
  unfold wrongL
  rw[if_neg]
  ·exact zj4h told L fun y hy=>h y (List.mem_cons_of_mem _ hy)
  ·rintro ⟨h1,h2⟩
   rcases h y (by simp) with h | h
   ·exact h1 h
   ·exact h2 h
theorem tgt_mark {l:List In} {x:In} (hx:x ∈ l) (h:tgtB x l.length=true):mkB l l ((x.imm.toNat:Nat):Int)=true∧x.imm.toNat≤l.length∧((x.imm.toNat:Nat):Int)=x.imm:=by
 obtain⟨_,_,_,_,_,_,_,h7,h8⟩:=zj20 h
 have e:((x.imm.toNat:Nat):Int)=x.imm:=by omega
 refine⟨?_,by omega,e⟩
 unfold mkB
 rw[List.any_eq_true]
 exact⟨x,hx,by rw[h,e]; simp⟩
theorem asm_print {l:List In} (hx:∀ x ∈ l,in64 x) (hl:l.length≤1024):(asmL (printL l)).1=l∧(asmL (printL l)).2.2=0:=by
 have hr:=full_read hx hl
 rw[← zj2y] at hr
 obtain⟨L,h1,h2⟩:=zj2m (linesL (printL l)) [] [] _ _ hr
 have hnm:∀ y ∈ L,∃ x ∈ l,y.x=(prL1 l.length x).1∧y.name=(prL1 l.length x).2:=by
  intro y hy
  have:(y.x,y.name) ∈ unN L:=List.mem_map_of_mem (f:=fun y:Ln=>(y.x,y.name)) hy
  rw[h2] at this
  obtain⟨x,h,e⟩:=List.mem_map.1 this
  exact⟨x,h,by rw[e],by rw[e]⟩
 have htold:∀ y ∈ L,y.name=[]∨y.name ∈ allN (linesL (printL l)):=by
  intro y hy
  obtain⟨x,h,_,e⟩:=hnm y hy
  by_cases ht:tgtB x l.length=true
  ·right
   obtain⟨m1,m2,m3⟩:=tgt_mark h ht
   rw[e]
   unfold prL1; rw[if_pos ht]
   have hf:=full_lab l m1 m2
   rw[← zj2y] at hf
   obtain⟨p,hp,he⟩:=List.mem_map.1 hf
   unfold allN
   refine List.mem_filterMap.2 ⟨p,hp,?_⟩
   rw[he,is_told _ (by omega),m3]
  ·left; rw[e]; unfold prL1; rw[if_neg ht]
 have hw:=zj4h (allN (linesL (printL l))) L htold
 have hout:outL (labsL l (l.length+1)) L=l:=by
  have e1:outL (labsL l (l.length+1)) L=(unN L).map fun p=>if p.2=[] then p.1 else { p.1 with imm:=(place (labsL l (l.length+1)) p.2:Int) }:=by
   unfold outL unN; rw[List.map_map]; rfl
  rw[e1,h2,List.map_map]
  refine (List.map_congr_left fun x h=>?_).trans (List.map_id l)
  show (if (prL1 l.length x).2=[] then (prL1 l.length x).1 else _)=x
  by_cases ht:tgtB x l.length=true
  ·obtain⟨m1,m2,m3⟩:=tgt_mark h ht
   unfold prL1; rw[if_pos ht]
   simp only
   rw[if_neg (by simp[lname])]
   have hp:place (labsL l (l.length+1)) (lname x.imm)=x.imm.toNat:=by
    have hpl:=zj4g ((List.range (l.length+1)).filter fun (j:Nat)=>mkB l l (j:Int)) (k:=x.imm.toNat) (List.mem_filter.2 ⟨List.mem_range.2 (by omega),m1⟩) fun j hj=>by
     have:=List.mem_range.1 (List.mem_filter.1 hj).1
     omega
    rw[m3] at hpl
    exact hpl
   rw[hp,m3]
  ·unfold prL1; rw[if_neg ht]; simp
 have has:asmL (printL l)=(outL (labsL l (l.length+1)) L,labsL l (l.length+1),0):=by
  unfold asmL
  rw[h1]
  simp only
  rw[hw,if_pos rfl]
 rw[has,hout]
 exact⟨rfl,rfl⟩
end Go.Asm
