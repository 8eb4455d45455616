/- opt's drop in plain words: what is left, and where its ways go. -/
import Derived.Test.YtlbiogokpadaoaaGreatDoorFdPlain
set_option linter.unusedSimpArgs false
set_option linter.unusedVariables false
set_option linter.unnecessarySimpa false
namespace Go.Proofs.YtlbiogokpadaoaaGreatDoor
open Go Go.Sx Go.Isa
def leftN (gone:Nat→Bool):Nat→Nat
 | 0=>0
 | n+1=>leftN gone n+(if gone n=true then 0 else 1)
def adjI (gone:Nat→Bool) (len:Nat) (x:In):In:=if goK x ≠ 0∧x.imm < len then { x with imm:=leftN gone x.imm.toNat } else x
def dropTo (gone:Nat→Bool) (l:List In):Nat→List In
 | 0=>[]
 | i+1=>dropTo gone l i++(match l[i]? with | some x=>(if gone i=true then [] else [adjI gone l.length x]) | none=>[])
def dropP (gone:Nat→Bool) (l:List In):List In:=dropTo gone l l.length
theorem zj25 (gone:Nat→Bool):∀ n,leftN gone n≤n
 | 0=>Nat.le_refl _
 | n+1=>by have:=zj25 gone n; simp only[leftN]; split <;> omega
theorem zj2y (gone:Nat→Bool) (l:List In):∀ i,i≤l.length→(dropTo gone l i).length=leftN gone i
 | 0,_=>rfl
 | i+1,h=>by
  have:=zj2y gone l i (by omega)
  have hx:l[i]? = some (l[i]'(by omega)):=List.getElem?_eq_getElem (by omega)
  simp only[dropTo,leftN,hx,List.length_append,this]
  split <;> simp
theorem leftN_all {gone:Nat→Bool}:∀ n,leftN gone n=n→∀ k,k < n→gone k=false
 | 0,_,k,hk=>absurd hk (by omega)
 | n+1,h,k,hk=>by
  have h1:=zj25 gone n
  simp only[leftN] at h
  split at h
  ·omega
  ·rename_i hn
   by_cases e:k=n
   ·subst e; simpa using hn
   ·exact leftN_all n (by omega) k (by omega)
theorem zj6p {gone:Nat→Bool}:∀ n,(∀ k,k < n→gone k=false)→leftN gone n=n
 | 0,_=>rfl
 | n+1,h=>by
  simp only[leftN,zj6p n (fun k hk=>h k (by omega)),h n (by omega)]
  simp
theorem leftN_step {gone:Nat→Bool} {n:Nat} (h:gone n=false):leftN gone (n+1)=leftN gone n+1:=by simp[leftN,h]
theorem dropP_len (gone:Nat→Bool) (l:List In):(dropP gone l).length=leftN gone l.length:=zj2y gone l _ (Nat.le_refl _)
theorem dropP_le (gone:Nat→Bool) (l:List In):(dropP gone l).length≤l.length:=by rw[dropP_len]; exact zj25 _ _
theorem adjI_same {gone:Nat→Bool} {l:List In} (h:∀ k,k < l.length→gone k=false) (x:In):adjI gone l.length x=x:=by
 unfold adjI
 split
 ·rename_i hx
  have h0:=zj1q hx.1
  rw[zj6p _ fun k hk=>h k (by omega)]
  cases x
  simp only[In.mk.injEq,true_and]
  simp only at h0
  omega
 ·rfl
theorem zj4x {gone:Nat→Bool} {l:List In} (h:∀ k,k < l.length→gone k=false):∀ i,i≤l.length→dropTo gone l i=l.take i
 | 0,_=>rfl
 | i+1,hi=>by
  have hx:l[i]? = some (l[i]'(by omega)):=List.getElem?_eq_getElem (by omega)
  simp only[dropTo,zj4x h i (by omega),hx,h i (by omega),adjI_same h]
  rw[List.take_add_one,hx]
  simp
theorem zj2z {gone:Nat→Bool} {l:List In} (h:(dropP gone l).length=l.length):dropP gone l=l:=by
 rw[dropP_len] at h
 unfold dropP
 rw[zj4x (fun k hk=>leftN_all _ h k hk) _ (Nat.le_refl _),List.take_length]
def skipB (l:List In) (i:Nat):Bool:=match l[i]? with | some x=>decide (goK x=1∧x.imm=(i:Int)+1) | none=>false
def skip1 (l:List In):List In:=dropP (skipB l) l
def skipN:Nat→List In→List In
 | 0,l=>l
 | n+1,l=>skipN n (skip1 l)
def skipL (l:List In):List In:=skipN l.length l
theorem zj2i (l:List In):(skip1 l).length≤l.length:=dropP_le _ _
theorem zj1r {l:List In} (h:(skip1 l).length=l.length):∀ n,skipN n l=l
 | 0=>rfl
 | n+1=>by
  have e:skip1 l=l:=zj2z h
  simp only[skipN,e,zj1r h n]
theorem skipN_any:∀ (k n:Nat) (l:List In),l.length≤k→l.length≤n→skipN k l=skipN n l
 | 0,n,l,hk,_=>by
  have h:(skip1 l).length=l.length:=by have:=zj2i l; omega
  rw[zj1r h,zj1r h]
 | k+1,0,l,_,hn=>by
  have h:(skip1 l).length=l.length:=by have:=zj2i l; omega
  rw[zj1r h,zj1r h]
 | k+1,n+1,l,hk,hn=>by
  by_cases h:(skip1 l).length=l.length
  ·rw[zj1r h,zj1r h]
  ·have:=zj2i l
   simp only[skipN]
   exact skipN_any k n _ (by omega) (by omega)
theorem zj7w {n:Nat} {l:List In} (h:l.length≤n):skipN n l=skipL l:=skipN_any _ _ _ h (Nat.le_refl _)
theorem skipL_fix {l:List In} (h:(skip1 l).length=l.length):skipL l=l:=zj1r h _
theorem skipL_step (l:List In):skipL (skip1 l)=skipL l:=by
 rw[← zj7w (n:=l.length) (zj2i l),← zj7w (n:=l.length+1) (l:=l) (by omega)]
 rfl
theorem zj3o:∀ (n:Nat) (l:List In),(skipN n l).length≤l.length
 | 0,_=>Nat.le_refl _
 | n+1,l=>Nat.le_trans (zj3o n _) (zj2i l)
theorem zj3p (l:List In):(skipL l).length≤l.length:=zj3o _ _
theorem skipN_succ' (n:Nat):∀ l:List In,skipN (n+1) l=skip1 (skipN n l):=by
 induction n with
 | zero=>intro l; rfl
 | succ n ih=>intro l; rw[skipN,ih]; rfl
def Chn (l:List In):List Int→Int→Prop
 | [],_=>True
 | q :: led,p=>(∃ x,l[q.toNat]? = some x∧goK x=1∧x.imm=p)∧Chn l led q
theorem ledOk1 {cs:List In} {p:Int} (h:0≤p):LedOk cs [] p:=⟨List.nodup_nil,by simp,by simp,h⟩
theorem chn_from {l:List In}:∀ {led:List Int} {p:Int},LedOk l led p→Chn l led p→∀ r,r ∈ p :: led→∃ led',(∀ q ∈ led',q ∈ led)∧LedOk l led' p∧r ∈ p :: led'∧thr l l.length [] r=thr l l.length led' p
 | led,p,h,hc,r,hr=>by
  rcases List.mem_cons.1 hr with e | hr
  ·subst e
   exact⟨[],by simp,ledOk1 h.p0,by simp,rfl⟩
  ·match led,h,hc,hr with
   | q :: led2,h,⟨⟨x,hx,hg,him⟩,hc2⟩,hr =>
    have hnd:=List.nodup_cons.1 h.nd
    have hq:=h.rg q (by simp)
    have h2:LedOk l led2 q:=⟨hnd.2,fun s hs=>h.rg s (List.mem_cons_of_mem _ hs),hnd.1,hq.1⟩
    obtain⟨led',hsub,hok,hm,he⟩:=chn_from h2 hc2 r hr
    have hno:p ∉ q :: led':=fun hp=>h.no (by
     rcases List.mem_cons.1 hp with e | hp
     ·subst e; simp
     ·exact List.mem_cons_of_mem _ (hsub p hp))
    have hst:=thr_all hok hx ⟨hg,by rw[him]; exact hno⟩
    rw[him] at hst
    refine⟨q :: led',fun s hs=>?_,hok.step hq.2 hno h.p0,?_,he.trans hst⟩
    ·rcases List.mem_cons.1 hs with e | hs
     ·subst e; simp
     ·exact List.mem_cons_of_mem _ (hsub s hs)
    ·exact List.mem_cons_of_mem _ hm
def EndAt (l:List In) (q:Int):Prop:=∀ x,l[q.toNat]? = some x→goK x=1→thr l l.length [] x.imm=q
theorem thr_endAt {l:List In}:∀ (n:Nat) (led:List Int) (p:Int),LedOk l led p→Chn l led p→l.length≤led.length+n→EndAt l (thr l n led p)
 | 0,led,p,h,_,hn=>by
  intro x hx _
  exfalso
  have hx:l[p.toNat]? = some x:=hx
  have hp:=at_of h.p0 hx
  have:=zj29 l.length (p :: led) (List.nodup_cons.2 ⟨h.no,h.nd⟩) (fun r hr=>by
   rcases List.mem_cons.1 hr with rfl | hr
   ·exact⟨h.p0,hp⟩
   ·exact h.rg r hr)
  simp at this; omega
 | n+1,led,p,h,hc,hn=>by
  cases hx:l[p.toNat]? with
  | none=>rw[thr_end hx]; intro x hx'; rw[hx] at hx'; cases hx'
  | some x =>
   by_cases hg:goK x=1∧x.imm ∉ p :: led
   ·rw[thr_on hx hg]
    have hp:=at_of h.p0 hx
    exact thr_endAt n _ _ (h.step hp hg.2 (zj1q (by rw[hg.1]; decide)).1) ⟨⟨x,hx,hg.1,rfl⟩,hc⟩ (by simp; omega)
   ·rw[zj42 hx hg]
    intro y hy hgy
    rw[hx] at hy; injection hy with hy; subst hy
    have hin:x.imm ∈ p :: led:=Classical.byContradiction fun hh=>hg ⟨hgy,hh⟩
    obtain⟨led',hsub,hok,hm,he⟩:=chn_from h hc _ hin
    rw[he,zj42 hx fun hh=>hh.2 hm]
theorem legal_imm (x:In) (q:Int):legalB { x with imm:=q }=legalB x:=rfl
theorem goK_imm2 (x:In) {q:Int} (h0:0≤q) (h1:q≤1024) (hx:goK x ≠ 0):goK { x with imm:=q }=goK x:=by
 have hi:=zj1q hx
 unfold goK
 rw[legal_imm]
 simp only[h0,h1,hi,and_true]
theorem goK_thrI (l:List In) (x:In):goK (thrI l x)=goK x:=by
 unfold thrI
 split
 ·rfl
 ·rename_i h
  have hi:=zj1q h
  have:=thr_rg l l.length [] x.imm hi.1 hi.2
  exact goK_imm2 x this.1 this.2 h
theorem thrI_op (l:List In) (x:In):(thrI l x).op=x.op:=by unfold thrI; split <;> rfl
theorem zj7x (l:List In):zj0a (zj0a l)=zj0a l:=by
 have hlen:=zj1i l
 unfold zj0a at *
 rw[List.map_map]
 refine List.map_congr_left fun x _=>?_
 show thrI (l.map (thrI l)) (thrI l x)=thrI l x
 by_cases hg:goK x=0
 ·have e:thrI l x=x:=by unfold thrI; rw[if_pos hg]
  rw[e]
  unfold thrI
  rw[if_pos hg]
 ·have hi:=zj1q hg
  have hq:=thr_rg l l.length [] x.imm hi.1 hi.2
  have hend:=thr_endAt (l:=l) l.length [] x.imm (ledOk1 hi.1) trivial (Nat.le_add_left _ _)
  have e:thrI l x={ x with imm:=thr l l.length [] x.imm }:=by unfold thrI; rw[if_neg hg]
  have hgt:=goK_thrI l x
  generalize thr l l.length [] x.imm=q at *
  rw[e] at hgt ⊢
  have:thr (l.map (thrI l)) (l.map (thrI l)).length [] q=q:=by
   cases hx:l[q.toNat]? with
   | none=>exact thr_end (by rw[List.getElem?_map,hx]; rfl)
   | some y =>
    have hy:(l.map (thrI l))[q.toNat]? = some (thrI l y):=by rw[List.getElem?_map,hx]; rfl
    refine zj42 hy fun hh=>?_
    have h1:goK y=1:=by rw[← goK_thrI l y]; exact hh.1
    have h2:=hend y hx h1
    have h3:(thrI l y).imm=q:=by
     unfold thrI
     rw[if_neg (by rw[h1]; decide)]
     exact h2
    exact hh.2 (by rw[h3]; simp)
  have e2:∀ (m:List In) (z:In),goK z ≠ 0→thrI m z={ z with imm:=thr m m.length [] z.imm }:=fun m z hz=>by unfold thrI; rw[if_neg hz]
  rw[e2 _ _ (by rw[hgt]; exact hg)]
  simp only[this]
open Go.Lint
open Classical in
noncomputable def neverB (l:List In) (i:Nat):Bool:=decide (¬ Go.Lint.Reach l ((i:Int),false)∧¬ Go.Lint.Reach l ((i:Int),true))
noncomputable def trimL (l:List In):List In:=dropP (neverB l) l
theorem zj3q (l:List In):(trimL l).length≤l.length:=dropP_le _ _
theorem adjI_op (gone:Nat→Bool) (n:Nat) (x:In):(adjI gone n x).op=x.op:=by unfold adjI; split <;> rfl
theorem adjI_legal (gone:Nat→Bool) (n:Nat) (x:In):legalB (adjI gone n x)=legalB x:=by unfold adjI; split <;> rfl
end Go.Proofs.YtlbiogokpadaoaaGreatDoor
namespace Go.Proofs.YtlbiogokpadaoaaGreatDoor
open Go Go.Sx Go.Isa
noncomputable def optR (l:List In):List In:=trimL (skipL (zj0a (foldL l)))
noncomputable def optN:Nat→List In→List In
 | 0,l=>l
 | n+1,l=>if optR l=l then l else optN n (optR l)
def nfI (x:In):Bool:=legalB x && ((decide (14≤x.op) && decide (x.op≤16)) || (decide (3≤x.op) && decide (x.op≤10)))
def nfL (l:List In):Nat:=l.countP nfI
theorem foldI_nf (x:In) (s:List (Option Int)) (p:Nat):(foldI x s p).1=x∨(nfI x=true∧nfI (foldI x s p).1=false):=by
 unfold foldI
 split
 ·exact .inl rfl
 ·rename_i hl
  have hl:legalB x=true:=by simpa using hl
  split
  ·rename_i hb
   split
   ·right
    unfold brG at hb
    simp only[Bool.and_eq_true,decide_eq_true_eq] at hb
    refine⟨?_,?_⟩
    ·unfold nfI; rw[hl]; simp[hb.2]
    ·simp[nfI]
   ·exact .inl rfl
  ·split
   ·exact .inl rfl
   ·rename_i h11
    split
    ·exact .inl rfl
    ·rename_i hop
     split
     ·simp only
      split
      ·rename_i h2
       right
       refine⟨?_,?_⟩
       ·unfold nfI; rw[hl]
        have:3≤x.op:=by omega
        have:x.op≤10:=by omega
        simp[*]
       ·simp[nfI]
      ·exact .inl rfl
     ·exact .inl rfl
theorem zj3c {α:Type} (p:α→Bool) (f:Nat→α→α) (h:∀ i x,f i x=x∨(p x=true∧p (f i x)=false)):∀ (l:List α),(l.mapIdx f).countP p≤l.countP p∧((l.mapIdx f).countP p=l.countP p→l.mapIdx f=l)
 | []=>by simp
 | x :: l=>by
  rw[List.mapIdx_cons]
  obtain⟨h1,h2⟩:=zj3c p (fun i=>f (i+1)) (fun i x=>h (i+1) x) l
  rw[List.countP_cons,List.countP_cons]
  rcases h 0 x with e | ⟨e1,e2⟩
  ·rw[e]
   refine⟨by omega,fun k=>?_⟩
   rw[h2 (by omega)]
  ·rw[e1,e2]
   simp only[Bool.false_eq_true,if_false,if_true]
   exact⟨by omega,fun k=>by omega⟩
theorem zj7y (l:List In):nfL (foldL l)≤nfL l∧(nfL (foldL l)=nfL l→foldL l=l) :=
 zj3c nfI (foldA l) (fun i x=>foldI_nf x _ i) l
theorem zj6q (l:List In):nfL (zj0a l)=nfL l:=by
 unfold nfL zj0a
 rw[List.countP_map]
 congr 1
 funext x
 show nfI (thrI l x)=nfI x
 have h1:=thrI_op l x
 have h2:legalB (thrI l x)=legalB x:=by unfold thrI; split <;> rfl
 unfold nfI; rw[h1,h2]
theorem adjI_nf (gone:Nat→Bool) (n:Nat) (x:In):nfI (adjI gone n x)=nfI x:=by
 unfold nfI; rw[adjI_op,adjI_legal]
theorem dropTo_nf (gone:Nat→Bool) (l:List In):∀ i,i≤l.length→nfL (dropTo gone l i)≤nfL (l.take i)
 | 0,_=>by simp[dropTo,nfL]
 | i+1,h=>by
  have ih:=dropTo_nf gone l i (by omega)
  have hx:l[i]? = some l[i]:=List.getElem?_eq_getElem (by omega)
  have et:l.take (i+1)=l.take i++[l[i]]:=by rw[List.take_add_one,hx]; rfl
  rw[et]
  unfold nfL at *
  unfold dropTo
  rw[hx]
  simp only[List.countP_append]
  split
  ·simp only[List.countP_nil]; omega
  ·simp only[List.countP_cons,List.countP_nil,adjI_nf]
   omega
theorem dropP_nf (gone:Nat→Bool) (l:List In):nfL (dropP gone l)≤nfL l:=by
 have:=dropTo_nf gone l l.length (Nat.le_refl _)
 rw[List.take_length] at this; exact this
theorem skipN_nf:∀ (n:Nat) (l:List In),nfL (skipN n l)≤nfL l
 | 0,l=>Nat.le_refl _
 | n+1,l=>Nat.le_trans (skipN_nf n (skip1 l)) (dropP_nf _ _)
theorem skipL_nf (l:List In):nfL (skipL l)≤nfL l:=skipN_nf _ _
theorem trimL_nf (l:List In):nfL (trimL l)≤nfL l:=dropP_nf _ _
theorem zj6r:∀ (n:Nat) {l:List In},(skipN n l).length=l.length→skipN n l=l
 | 0,l,_=>rfl
 | n+1,l,h=>by
  have h1:(skipN (n+1) l).length=(skipN n (skip1 l)).length:=rfl
  have h2:=zj3o n (skip1 l)
  have h3:=zj2i l
  have e:skip1 l=l:=zj2z (by show (skip1 l).length=_; omega)
  show skipN n (skip1 l)=l
  rw[e] at h1 ⊢
  exact zj6r n (by omega)
theorem skipL_same {l:List In} (h:(skipL l).length=l.length):skipL l=l:=zj6r _ h
theorem trimL_same {l:List In} (h:(trimL l).length=l.length):trimL l=l:=zj2z h
theorem optR_len (l:List In):(optR l).length≤l.length:=by
 unfold optR
 have h1:=zj3q (skipL (zj0a (foldL l)))
 have h2:=zj3p (zj0a (foldL l))
 rw[zj1i,zj1c] at h2
 omega
theorem optR_nf (l:List In):nfL (optR l)≤nfL l:=by
 unfold optR
 have h1:=trimL_nf (skipL (zj0a (foldL l)))
 have h2:=skipL_nf (zj0a (foldL l))
 rw[zj6q] at h2
 have h3:=(zj7y l).1
 omega
theorem optR_long {l:List In} (h:(optR l).length=l.length):optR l=zj0a (foldL l):=by
 unfold optR at h ⊢
 have h1:=zj3q (skipL (zj0a (foldL l)))
 have h2:=zj3p (zj0a (foldL l))
 have h4:(zj0a (foldL l)).length=l.length:=by rw[zj1i,zj1c]
 rw[h4] at h2
 have e:skipL (zj0a (foldL l))=zj0a (foldL l):=skipL_same (by omega)
 rw[e] at h h1 ⊢
 exact trimL_same (by omega)
def phiL (l:List In):Nat:=2*l.length+nfL l+(if zj0a l=l then 0 else 1)
theorem zj36 {l:List In} (h:optR l ≠ l):phiL (optR l) < phiL l:=by
 have h1:=optR_len l
 have h2:=optR_nf l
 unfold phiL
 by_cases hl:(optR l).length=l.length
 ·have e:=optR_long hl
  have ht:zj0a (optR l)=optR l:=by rw[e,zj7x]
  rw[if_pos ht]
  by_cases hn:nfL (optR l)=nfL l
  ·have hf:foldL l=l:=(zj7y l).2 (by
    have:=(zj7y l).1
    rw[e,zj6q] at hn
    exact hn)
   rw[hf] at e
   have:zj0a l ≠ l:=by rw[← e]; exact h
   rw[if_neg this]
   omega
  ·omega
 ·split <;> split <;> omega
theorem phiL_le (l:List In):phiL l≤3*l.length+1:=by
 have:nfL l≤l.length:=List.countP_le_length
 unfold phiL
 split <;> omega
theorem optN_any:∀ (n m:Nat) (l:List In),phiL l≤n→phiL l≤m→optN n l=optN m l
 | 0,0,_,_,_=>rfl
 | 0,m+1,l,h,_=>by
  show l=optN (m+1) l
  unfold optN
  rw[if_pos]
  refine Classical.byContradiction fun hc=>?_
  have:=zj36 hc; omega
 | n+1,0,l,_,h=>by
  show optN (n+1) l=l
  unfold optN
  rw[if_pos]
  refine Classical.byContradiction fun hc=>?_
  have:=zj36 hc; omega
 | n+1,m+1,l,h1,h2=>by
  unfold optN
  split
  ·rfl
  ·rename_i hc
   have:=zj36 hc
   exact optN_any n m (optR l) (by omega) (by omega)
noncomputable def optL (l:List In):List In:=optN (phiL l) l
theorem optL_of {n:Nat} {l:List In} (h:phiL l≤n):optN n l=optL l:=optN_any _ _ _ h (Nat.le_refl _)
theorem optL_fix {l:List In} (h:optR l=l):optL l=l:=by
 rw[← optL_of (n:=phiL l+1) (by omega)]
 unfold optN; rw[if_pos h]
theorem optL_step {l:List In} (h:optR l ≠ l):optL l=optL (optR l):=by
 rw[← optL_of (n:=phiL l+1) (by omega)]
 conv=>lhs; unfold optN
 rw[if_neg h]
 exact optL_of (by have:=zj36 h; omega)
theorem optN_len:∀ (n:Nat) (l:List In),(optN n l).length≤l.length
 | 0,l=>Nat.le_refl _
 | n+1,l=>by
  unfold optN
  split
  ·exact Nat.le_refl _
  ·exact Nat.le_trans (optN_len n _) (optR_len l)
theorem optL_len (l:List In):(optL l).length≤l.length:=optN_len _ _
end Go.Proofs.YtlbiogokpadaoaaGreatDoor
