/- What is printed is assembled as it was: the plain law. -/
import Derived.Test.YtaiajnehnjnadaaGreatDoorIlPlain
set_option linter.unusedSimpArgs false
set_option linter.unusedVariables false
set_option linter.unnecessarySimpa false
namespace Go.Asm
open Go Go.Isa
set_option maxRecDepth 100000
theorem dec_dig (u:Nat):∀ c ∈ Lib.decDigits u,48≤c.toNat∧c.toNat≤57:=fun c h=>Il.dec_digit u c h
def numC (c:UInt8):Prop:=c=45∨(48≤c.toNat∧c.toNat≤57)
theorem itoa_num (n:Int):∀ c ∈ Lib.itoa n,numC c:=by
 intro c hc
 unfold Lib.itoa at hc
 split at hc
 ·rcases List.mem_cons.1 hc with hc | hc
  ·exact .inl hc
  ·exact .inr (dec_dig _ c hc)
 ·exact .inr (dec_dig _ c hc)
theorem dec_snoc (u:Nat):∃ r d,Lib.decDigits u=r++[d]:=by
 rw[Lib.decDigits]
 split
 ·exact⟨[],_,rfl⟩
 ·exact⟨_,_,rfl⟩
theorem itoa_snoc (n:Int):∃ r d,Lib.itoa n=r++[d]∧48≤d.toNat∧d.toNat≤57:=by
 have key:∀ u,∃ r d,Lib.decDigits u=r++[d]∧48≤d.toNat∧d.toNat≤57:=fun u=>by
  obtain⟨r,d,h⟩:=dec_snoc u
  have:=dec_dig u d (by rw[h]; simp)
  exact⟨r,d,h,this⟩
 unfold Lib.itoa
 split
 ·obtain⟨r,d,h,h1⟩:=key n.natAbs
  exact⟨45 :: r,d,by rw[h]; rfl,h1⟩
 ·exact key _
theorem itoa_inj {a b:Nat} (ha:a≤5000) (hb:b≤5000) (h:Lib.itoa (a:Int)=Lib.itoa (b:Int)):a=b:=by
 have h1:=Il.atoi_itoa (n:=(a:Int)) (by omega) (by omega)
 have h2:=Il.atoi_itoa (n:=(b:Int)) (by omega) (by omega)
 rw[h,h2] at h1
 injection h1 with h1
 omega
def lname (i:Int):B:=108 :: Lib.itoa i
def NumEnd (s:B):Prop:=lastBl s=none∨∃ k z,lastBl s=some k∧s.drop (k+1)=Lib.itoa z
structure Tx (s:B):Prop where
 hd:∃ c r,s=c :: r∧97≤c.toNat∧c.toNat≤122
 la:∃ r d,s=r++[d]∧((48≤d.toNat∧d.toNat≤58)∨(97≤d.toNat∧d.toNat≤122))
 al:∀ c ∈ s,c=32∨c=45∨(48≤c.toNat∧c.toNat≤58)∨(97≤c.toNat∧c.toNat≤122)
theorem Tx.num {s:B} (h:Tx s) (z:Int):Tx (s++32 :: Lib.itoa z):=by
 obtain⟨⟨c,r,rfl,h1⟩,_,h3⟩:=h
 obtain⟨q,d,e,hd⟩:=itoa_snoc z
 refine⟨⟨c,_,rfl,h1⟩,⟨c :: r++32 :: q,d,by rw[e]; simp,.inl (by omega)⟩,fun x hx=>?_⟩
 rcases List.mem_append.1 hx with hx | hx
 ·exact h3 x hx
 ·rcases List.mem_cons.1 hx with hx | hx
  ·exact .inl hx
  ·rcases itoa_num z x hx with h | h
   ·exact .inr (.inl h)
   ·exact .inr (.inr (.inl (by omega)))
theorem Tx.lab {s:B} (h:Tx s) (z:Int):Tx (s++32 :: lname z):=by
 obtain⟨⟨c,r,rfl,h1⟩,_,h3⟩:=h
 obtain⟨q,d,e,hd⟩:=itoa_snoc z
 refine⟨⟨c,_,rfl,h1⟩,⟨c :: r++32 :: 108 :: q,d,by rw[lname,e]; simp,.inl (by omega)⟩,fun x hx=>?_⟩
 rcases List.mem_append.1 hx with hx | hx
 ·exact h3 x hx
 ·rcases List.mem_cons.1 hx with hx | hx
  ·exact .inl hx
  ·rcases List.mem_cons.1 hx with hx | hx
   ·exact .inr (.inr (.inr (by subst hx; decide)))
   ·rcases itoa_num z x hx with h | h
    ·exact .inr (.inl h)
    ·exact .inr (.inr (.inl (by omega)))
theorem Tx.arg (x:In):∀ (nm:B) {s:B},Tx s→Tx (s++argL x nm)
 | [],s,h=>by simpa [argL] using h
 | c :: nm,s,h=>by
  have:=Tx.arg x nm (h.num (fld x c.toNat))
  rw[List.append_assoc] at this
  exact this
theorem tx_of {s:B} (h:s ≠ []∧∀ c ∈ s,97≤c.toNat∧c.toNat≤122):Tx s:=by
 obtain⟨h0,h1⟩:=h
 refine⟨?_,?_,fun c hc=>.inr (.inr (.inr (h1 c hc)))⟩
 ·cases s with
  | nil=>exact absurd rfl h0
  | cons c r=>exact⟨c,r,rfl,h1 c (by simp)⟩
 ·have e:=List.dropLast_concat_getLast h0
  exact⟨_,_,e.symm,.inr (h1 _ (List.getLast_mem h0))⟩
theorem wd_tx:∀ m:Nat,m < 18→wdL ((m:Int)+1) ≠ []∧∀ c ∈ wdL ((m:Int)+1),97≤c.toNat∧c.toNat≤122:=by decide
theorem tx_wd {op:Int} (h:isOp op=true):Tx (wdL op):=by
 have hr:1≤op∧op≤18:=by rw[isOp,Bool.and_eq_true] at h; exact⟨of_decide_eq_true h.1,of_decide_eq_true h.2⟩
 have:=wd_tx (op.toNat - 1) (by omega)
 rw[show ((op.toNat - 1:Nat):Int)+1=op by omega] at this
 exact tx_of this
theorem tx_text (x:In):Tx (textL x):=by
 unfold textL
 split
 ·rename_i hp
  refine Tx.arg x _ (tx_wd ?_)
  have hl:legalB x=true:=by rw[plainB,Bool.and_eq_true] at hp; exact hp.1
  simp only[legalB,Bool.and_eq_true] at hl
  exact hl.1.1.1
 ·exact Tx.arg x _ (tx_of (by decide))
theorem tc_all (a:UInt8):∀ t:B,(∀ j,j < t.length→t[j]? ≠ some a)→t.takeWhile (fun c=>!(c == a))=t
 | [],_=>rfl
 | c :: t,h=>by
  have h0:(!(c == a))=true:=by
   have:=h 0 (by simp)
   simpa using this
  rw[List.takeWhile_cons,h0,if_pos rfl,tc_all a t fun j hj=>by have:=h (j+1) (by simpa using hj); simpa using this]
theorem tc_take (a:UInt8):∀ (t:B) (k:Nat),t[k]? = some a→(∀ j,j < k→t[j]? ≠ some a)→t.takeWhile (fun c=>!(c == a))=t.take k
 | [],k,h,_=>by simp at h
 | c :: t,0,h,_=>by
  have:c=a:=by simpa using h
  subst this; simp
 | c :: t,k+1,h,hn=>by
  have h0:(!(c == a))=true:=by
   have:=hn 0 (by omega)
   simpa using this
  rw[List.takeWhile_cons,h0,if_pos rfl,List.take_succ_cons,tc_take a t k (by simpa using h) fun j hj=>by have:=hn (j+1) (by omega); simpa using this]
theorem tc_cut (a:UInt8) (t:B) (k:Nat) (h:t[k]? = some a) (hn:∀ j,j < k→t[j]? ≠ some a):(t.take k).takeWhile (fun c=>!(c == a))=t.takeWhile (fun c=>!(c == a)):=by
 rw[tc_take a t k h hn]
 refine tc_all a _ fun j hj=>?_
 have:j < k:=by rw[List.length_take] at hj; omega
 rw[List.getElem?_take_of_lt this]
 exact hn j this
theorem zj2mb (c:UInt8) (s:B):endBl (c :: s)=if endBl s=[]∧isBl c=true then [] else c :: endBl s:=by
 have hl:(List.dropWhile isBl s.reverse).isEmpty=decide (endBl s=[]):=by
  unfold endBl
  cases h:List.dropWhile isBl s.reverse with
  | nil=>simp
  | cons a l=>simp
 unfold endBl at hl ⊢
 rw[List.reverse_cons,List.dropWhile_append,hl]
 by_cases h:(List.dropWhile isBl s.reverse).reverse=[]
 ·rw[decide_eq_true h,if_pos rfl]
  cases hc:isBl c with
  | true=>rw[if_pos ⟨h,rfl⟩,List.dropWhile_cons,hc]; rfl
  | false=>rw[if_neg (by simp),List.dropWhile_cons,hc,h]; rfl
 ·rw[decide_eq_false h,if_neg (by simp),if_neg (fun e=>h e.1)]
  simp
theorem trim_comm:∀ s:B,endBl (s.dropWhile isBl)=(endBl s).dropWhile isBl
 | []=>rfl
 | c :: s=>by
  have ih:=trim_comm s
  rw[List.dropWhile_cons,zj2mb]
  cases hc:isBl c with
  | true =>
   rw[if_pos rfl,ih]
   by_cases h:endBl s=[]
   ·rw[if_pos ⟨h,rfl⟩,h]
   ·rw[if_neg (fun e=>h e.1),List.dropWhile_cons,hc,if_pos rfl]
  | false =>
   rw[if_neg (by simp),zj2mb,if_neg (by simp[hc]),if_neg (by simp),List.dropWhile_cons,hc,if_neg (by simp)]
theorem zj4b (s:B) (c:UInt8):endBl (s++[c])=if isBl c=true then endBl s else s++[c]:=by
 unfold endBl
 rw[List.reverse_append]
 show (List.dropWhile isBl (c :: s.reverse)).reverse=_
 rw[List.dropWhile_cons]
 cases hc:isBl c with
 | true=>rw[if_pos rfl,if_pos rfl]
 | false=>simp
def sayP (p:B) (n:Nat):List (Nat × B):=match trimBl (cutRem p) with
 | []=>[]
 | c :: r=>[(n,c :: r)]
theorem zj1f (p:B) (ps:List B) (n:Nat):linesF (p :: ps) n=sayP p n++linesF ps (n+1):=by
 conv=>lhs; unfold linesF
 unfold sayP
 cases trimBl (cutRem p) <;> rfl
def accB (t:B) (fr i:Nat):B:=(t.drop fr).take (i - fr)
theorem accB_self (t:B) (i:Nat):accB t i i=[]:=by unfold accB; rw[Nat.sub_self,List.take_zero]
theorem accB_succ {t:B} {fr i:Nat} {c:UInt8} (h:fr≤i) (hx:t[i]? = some c):accB t fr (i+1)=accB t fr i++[c]:=by
 unfold accB
 rw[show i+1 - fr=(i - fr)+1 by omega,List.take_add_one,List.getElem?_drop,show fr+(i - fr)=i by omega,hx]
 rfl
theorem step_in {t:B} {fr i n:Nat} {c:UInt8} (h:fr≤i) (hx:t[i]? = some c) (hc:c ≠ 10):linesF (pieces (accB t fr i) (t.drop i)) n=linesF (pieces (accB t fr (i+1)) (t.drop (i+1))) n:=by
 have hl:i < t.length:=(List.getElem?_eq_some_iff.1 hx).1
 have hd:t.drop i=c :: t.drop (i+1):=by
  rw[List.drop_eq_getElem_cons hl]
  rw[List.getElem?_eq_getElem hl] at hx
  injection hx with hx; rw[hx]
 rw[hd,accB_succ h hx]
 conv=>lhs; unfold pieces
 rw[if_neg hc]
theorem step_nl {t:B} {fr i n:Nat} (hx:t[i]? = some 10):linesF (pieces (accB t fr i) (t.drop i)) n=sayP (accB t fr i) n++linesF (pieces (accB t (i+1) (i+1)) (t.drop (i+1))) (n+1):=by
 have hl:i < t.length:=(List.getElem?_eq_some_iff.1 hx).1
 have hd:t.drop i=10 :: t.drop (i+1):=by
  rw[List.drop_eq_getElem_cons hl]
  rw[List.getElem?_eq_getElem hl] at hx
  injection hx with hx; rw[hx]
 rw[hd,accB_self]
 conv=>lhs; unfold pieces
 rw[if_pos rfl,zj1f]
theorem step_end {t:B} {fr n:Nat}:linesF (pieces (accB t fr t.length) (t.drop t.length)) n=sayP (accB t fr t.length) n:=by
 rw[List.drop_length]
 unfold pieces
 rw[zj1f]; unfold linesF; simp
theorem sayP_mem {p:B} {n:Nat} {q:Nat × B} (h:q ∈ sayP p n):q.1=n∧q.2=trimBl (cutRem p):=by
 unfold sayP at h
 split at h
 ·cases h
 ·rename_i c r e
  rw[List.mem_singleton.1 h]; exact⟨rfl,e.symm⟩
theorem zj2r:∀ (ps:List B) (n:Nat) (q:Nat × B),q ∈ linesF ps n→n≤q.1∧∃ p ∈ ps,q.2=trimBl (cutRem p)
 | [],n,q,h=>by cases h
 | p :: ps,n,q,h=>by
  rw[zj1f] at h
  rcases List.mem_append.1 h with h | h
  ·obtain⟨h1,h2⟩:=sayP_mem h
   exact⟨by omega,p,by simp,h2⟩
  ·obtain⟨h1,p',hp,h2⟩:=zj2r ps (n+1) q h
   exact⟨by omega,p',List.mem_cons_of_mem _ hp,h2⟩
theorem lines_num (t:B):∀ q ∈ linesL t,q.1 ≠ 0:=fun q h=>by
 have:=(zj2r _ _ q h).1
 omega
theorem lines_len (t:B):∀ q ∈ linesL t,q.2.length≤t.length:=fun q h=>by
 obtain⟨_,p,hp,e⟩:=zj2r _ _ q h
 have h1:=zj0x t [] p hp
 have h2:=zj4z p
 rw[e]; simp at h1; omega
theorem zj4c:∀ (ps:List B) (n:Nat),(linesF ps n).length≤ps.length
 | [],_=>Nat.le_refl _
 | p :: ps,n=>by
  have ih:=zj4c ps (n+1)
  rw[zj1f,List.length_append]
  have:(sayP p n).length≤1:=by unfold sayP; split <;> simp
  simp; omega
theorem zj3m:∀ (s acc:B),(pieces acc s).length≤s.length+1
 | [],acc=>by simp[pieces]
 | c :: s,acc=>by
  unfold pieces
  split
  ·have:=zj3m s []; simp; omega
  ·have:=zj3m s (acc++[c]); simp; omega
theorem lines_count (t:B):(linesL t).length≤t.length+1:=Nat.le_trans (zj4c _ _) (zj3m t [])
theorem zj2s:∀ (ls:List (Nat × B)) (l:List Ln) (lb:List (B × Nat)),(∀ p ∈ ls,p.1 ≠ 0)→(readL ls l lb).2.2=0→(readL ls l lb).2.1.map (·.1)=lb.map (·.1)++allN ls
 | [],l,lb,_,_=>by simp[readL,allN]
 | (n,s) :: r,l,lb,hn,h0=>by
  have hn0:n ≠ 0:=hn (n,s) (by simp)
  have hr:∀ p ∈ r,p.1 ≠ 0:=fun p hp=>hn p (List.mem_cons_of_mem _ hp)
  unfold readL at h0 ⊢
  cases ht:toldL s with
  | some nm =>
   rw[ht] at h0
   simp only at h0 ⊢
   split at h0
   ·exact absurd h0 hn0
   ·rename_i hno
    rw[if_neg hno,zj2s r l _ hr h0]
    simp[allN,ht]
  | none =>
   rw[ht] at h0
   simp only at h0 ⊢
   have ha:allN ((n,s) :: r)=allN r:=by simp[allN,ht]
   rw[ha]
   cases ho:oneL s with
   | none=>rw[ho] at h0; exact absurd h0 hn0
   | some y =>
    obtain⟨x,to⟩:=y
    rw[ho] at h0
    simp only at h0 ⊢
    split at h0
    ·exact absurd h0 hn0
    ·rename_i hlt
     rw[if_neg hlt]
     exact zj2s r _ lb hr h0
theorem wrongL_ne (told:List B):∀ (L:List Ln) (bad:Nat),(∀ y ∈ L,y.n ≠ 0)→bad ≠ 0→wrongL told L bad ≠ 0
 | [],bad,_,h=>h
 | y :: L,bad,h,hb=>by
  unfold wrongL
  split
  ·exact h y (by simp)
  ·exact wrongL_ne told L bad (fun z hz=>h z (List.mem_cons_of_mem _ hz)) hb
def fixI (lb:List (B × Nat)) (nm:B):Int:=match lb.findIdx? (fun p=>p.1 == nm) with | some i=>(i:Int) | none => -1
theorem zj4d (lb:List (B × Nat)) (nm:B):(fixI lb nm = -1∧nm ∉ lb.map (·.1))∨∃ (k:Nat) (h:k < lb.length),fixI lb nm=k∧lb[k].1=nm∧place lb nm=lb[k].2:=by
 induction lb with
 | nil=>exact .inl ⟨rfl,by simp⟩
 | cons p r ih =>
  obtain⟨a,j⟩:=p
  by_cases e:a=nm
  ·subst e
   refine .inr ⟨0,by simp,?_,rfl,?_⟩
   ·unfold fixI; rw[List.findIdx?_cons]; simp
   ·unfold place; rw[if_pos rfl]; rfl
  ·have hb:(a == nm)=false:=by simpa using e
   have hc:fixI ((a,j) :: r) nm=(match r.findIdx? (fun p=>p.1 == nm) with | some i=>((i+1:Nat):Int) | none => -1):=by
    unfold fixI; rw[List.findIdx?_cons]
    simp only[hb]
    cases r.findIdx? (fun p=>p.1 == nm) <;> rfl
   have hpl:place ((a,j) :: r) nm=place r nm:=by
    conv=>lhs; unfold place
    rw[if_neg e]
   rw[hc,hpl]
   unfold fixI at ih
   rcases ih with⟨h1,h2⟩ | ⟨k,hk,h1,h2,h3⟩
   ·refine .inl ⟨?_,by simp only[List.map_cons,List.mem_cons,not_or]; exact⟨fun h=>e h.symm,h2⟩⟩
    cases hf:r.findIdx? (fun p=>p.1 == nm) with
    | none=>rfl
    | some i=>rw[hf] at h1; simp only at h1; omega
   ·refine .inr ⟨k+1,by simp; omega,?_,h2,h3⟩
    cases hf:r.findIdx? (fun p=>p.1 == nm) with
    | none=>rw[hf] at h1; simp only at h1; omega
    | some i=>rw[hf] at h1; simp only at h1 ⊢; omega
end Go.Asm
