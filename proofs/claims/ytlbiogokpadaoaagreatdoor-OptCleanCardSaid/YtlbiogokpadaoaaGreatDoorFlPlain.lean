/- flow: where parts begin, and what they are, in plain words. -/
import Derived.Test.YtlbiogokpadaoaaGreatDoorIsaSpec
set_option linter.unusedSimpArgs false
set_option linter.unusedVariables false
set_option linter.unnecessarySimpa false
namespace Go.Isa
open Go Go.Sx
def isV (l:List Int):List Value:=l.map fun n=>.int .i64 n
theorem zj5z (l:List Int):(isV l).length=l.length:=by simp[isV]
theorem zj60 (l:List Int) (j:Nat) (x:Int) (h:l[j]? = some x):(isV l)[j]? = some (.int .i64 x):=by
 unfold isV; rw[List.getElem?_map,h]; rfl
def dpI:List Int→List Int
 | []=>[]
 | [x]=>[x]
 | x :: y :: r=>if x=y then dpI (y :: r) else x :: dpI (y :: r)
theorem zj73 (y:Int):∀ (l:List Int) (x:Int),dpI (l++[x]++[y])=if x=y then dpI (l++[x]) else dpI (l++[x])++[y]
 | [],x=>by
  by_cases h:x=y
  ·subst h; simp[dpI]
  ·simp[dpI,h]
 | [a],x=>by
  have:=zj73 y [] x
  simp only[List.nil_append,List.cons_append] at *
  by_cases h:a=x
  ·simp only[dpI,h,if_true] at *
   split <;> simp_all
  ·simp only[dpI,h,if_false] at *
   split <;> simp_all
 | a :: c :: l,x=>by
  have:=zj73 y (c :: l) x
  simp only[List.cons_append] at *
  by_cases h:a=c
  ·simp only[dpI,h,if_true] at *
   exact this
  ·simp only[dpI,h,if_false] at *
   rw[this]
   split <;> simp
theorem zj2o {l:List Int} {k:Nat} {x:Int} (h:l[k]? = some x):l.take (k+1)=l.take k++[x]:=by
 rw[List.take_add_one,h]; rfl
theorem zj74 {l:List Int} {k:Nat} {x y:Int} (hx:l[k]? = some x) (hy:l[k+1]? = some y):dpI (l.take (k+2))=if x=y then dpI (l.take (k+1)) else dpI (l.take (k+1))++[y]:=by
 rw[zj2o hy,zj2o hx]
 exact zj73 y _ x
theorem dpI_len:∀ (l:List Int),(dpI l).length≤l.length
 | []=>by simp[dpI]
 | [x]=>by simp[dpI]
 | x :: y :: r=>by
  have:=dpI_len (y :: r)
  simp only[dpI]
  split <;> simp at*<;> omega
def srtI (l:List Int):List Int:=l.mergeSort fun x y=>decide (x≤y)
theorem srtI_up (l:List Int):(srtI l).Pairwise (·≤·):=by
 have:=List.pairwise_mergeSort (le:=fun x y:Int=>decide (x≤y)) (fun a b c h1 h2=>by simp at *; omega) (fun a b=>by simp; omega) l
 exact this.imp fun h=>by simpa using h
theorem srtI_mem (l:List Int) (x:Int):x ∈ srtI l ↔ x ∈ l:=(List.mergeSort_perm l _).mem_iff
def posI (l:List Int) (x:Int):Nat:=l.countP fun y=>decide (y < x)
def brB (op:Int):Bool:=decide (13≤op) && decide (op≤16)
def endsB (x:In):Bool:=!legalB x || (x.op == 1 || brB x.op)
def goesL (n i:Nat) (x:In):List Int:=if !legalB x || x.op == 1 then [] else (if brB x.op && (decide (0≤x.imm) && decide (x.imm < n)) then [x.imm] else [])++(if !(x.op == 13) && decide (i+1 < n) then [((i:Int)+1)] else [])
def begL (n:Nat):Nat→List In→List Int
 | _,[]=>[]
 | i,x :: r=>(if endsB x then (if i+1 < n then [((i:Int)+1)] else [])++goesL n i x else [])++begL n (i+1) r
def begT (l:List In) (i:Nat):List Int:=0 :: begL l.length 0 (l.take i)
def begS (n i:Nat) (x:In):List Int:=if endsB x then (if i+1 < n then [((i:Int)+1)] else [])++goesL n i x else []
theorem begL_snoc (n:Nat):∀ (xs:List In) (j:Nat) (x:In),begL n j (xs++[x])=begL n j xs++begS n (j+xs.length) x
 | [],j,x=>by simp[begL,begS]
 | y :: xs,j,x=>by
  have ih:=begL_snoc n xs (j+1) x
  have e:j+1+xs.length=j+(y :: xs).length:=by rw[List.length_cons]; omega
  rw[e] at ih
  rw[List.cons_append]
  show (if endsB y then _ else _)++begL n (j+1) (xs++[x])=_
  rw[ih,← List.append_assoc]; rfl
theorem begT_step {l:List In} {i:Nat} {x:In} (hx:l[i]? = some x):begT l (i+1)=begT l i++begS l.length i x:=by
 have hi:i < l.length:=(List.getElem?_eq_some_iff.1 hx).1
 have e:l.take (i+1)=l.take i++[x]:=by rw[List.take_add_one,hx]; rfl
 unfold begT
 rw[e,begL_snoc,List.length_take,Nat.min_eq_left (by omega),Nat.zero_add,List.cons_append]
theorem goesL_len (n i:Nat) (x:In):(goesL n i x).length≤2:=by
 unfold goesL
 split
 ·simp
 ·rw[List.length_append]; split <;> split <;> simp
theorem zj5b (n:Nat):∀ (i:Nat) (xs:List In),(begL n i xs).length≤3*xs.length
 | _,[]=>by simp[begL]
 | i,x :: r=>by
  have h1:=zj5b n (i+1) r
  have h2:=goesL_len n i x
  unfold begL
  rw[List.length_append,List.length_cons]
  split
  ·rw[List.length_append]; split <;> simp only[List.length_cons,List.length_nil] <;> omega
  ·simp only[List.length_nil]; omega
theorem dpI_mem (x:Int):∀ (l:List Int),x ∈ dpI l ↔ x ∈ l
 | []=>by simp[dpI]
 | [a]=>by simp[dpI]
 | a :: b :: r=>by
  have ih:=dpI_mem x (b :: r)
  simp only[dpI]
  split
  ·rename_i h
   subst h
   rw[ih]; simp
  ·rw[List.mem_cons,ih,List.mem_cons (a:=x) (b:=a)]
theorem dpI_up:∀ (l:List Int),l.Pairwise (·≤·)→(dpI l).Pairwise (· < ·)
 | [],_=>by simp[dpI]
 | [a],_=>by simp[dpI]
 | a :: b :: r,h=>by
  obtain⟨h1,h2⟩:=List.pairwise_cons.1 h
  have ih:=dpI_up (b :: r) h2
  simp only[dpI]
  split
  ·exact ih
  ·rename_i hne
   refine List.pairwise_cons.2 ⟨fun x hx=>?_,ih⟩
   rw[dpI_mem] at hx
   have h3:=h1 b (by simp)
   have h4:b≤x:=by
    rcases List.mem_cons.1 hx with h | h
    ·subst h; exact Int.le_refl _
    ·exact (List.pairwise_cons.1 h2).1 x h
   omega
def upI (l:List Int):List Int:=dpI (srtI l)
theorem upI_mem (l:List Int) (x:Int):x ∈ upI l ↔ x ∈ l:=by unfold upI; rw[dpI_mem,srtI_mem]
theorem upI_up (l:List Int):(upI l).Pairwise (· < ·):=dpI_up _ (srtI_up l)
theorem srtI_len (l:List Int):(srtI l).length=l.length:=List.length_mergeSort _
theorem upI_len (l:List Int):(upI l).length≤l.length:=by
 have:=dpI_len (srtI l)
 rw[srtI_len] at this; exact this
theorem up_ext:∀ {l m:List Int},l.Pairwise (· < ·)→m.Pairwise (· < ·)→(∀ x,x ∈ l ↔ x ∈ m)→l=m
 | [],[],_,_,_=>rfl
 | [],b :: m,_,_,h=>absurd ((h b).2 (by simp)) (by simp)
 | a :: l,[],_,_,h=>absurd ((h a).1 (by simp)) (by simp)
 | a :: l,b :: m,hl,hm,h=>by
  obtain⟨h1,h2⟩:=List.pairwise_cons.1 hl
  obtain⟨k1,k2⟩:=List.pairwise_cons.1 hm
  have e:a=b:=by
   have p:=(h a).1 (by simp)
   have q:=(h b).2 (by simp)
   rcases List.mem_cons.1 p with p | p
   ·exact p
   ·rcases List.mem_cons.1 q with q | q
    ·exact q.symm
    ·have:=h1 b q; have:=k1 a p; omega
  subst e
  congr 1
  refine up_ext h2 k2 fun x=>⟨fun hx=>?_,fun hx=>?_⟩
  ·rcases List.mem_cons.1 ((h x).1 (by simp[hx])) with e | e
   ·subst e; have:=h1 x hx; omega
   ·exact e
  ·rcases List.mem_cons.1 ((h x).2 (by simp[hx])) with e | e
   ·subst e; have:=k1 x hx; omega
   ·exact e
def upB:List Int→Bool
 | []=>true
 | [_]=>true
 | x :: y :: r=>decide (x < y) && upB (y :: r)
theorem upB_up:∀ (l:List Int),upB l=true→l.Pairwise (· < ·)
 | [],_=>by simp
 | [a],_=>by simp
 | a :: b :: r,h=>by
  simp only[upB,Bool.and_eq_true,decide_eq_true_eq] at h
  have ih:=upB_up (b :: r) h.2
  refine List.pairwise_cons.2 ⟨fun x hx=>?_,ih⟩
  rcases List.mem_cons.1 hx with e | e
  ·subst e; exact h.1
  ·have:=(List.pairwise_cons.1 ih).1 x e; omega
theorem upI_of {l m:List Int} (h1:upB m=true) (h2:(l.all (fun x=>m.contains x) && m.all (fun x=>l.contains x))=true):upI l=m:=by
 simp only[Bool.and_eq_true,List.all_eq_true,List.contains_iff_mem] at h2
 exact up_ext (upI_up l) (upB_up m h1) fun x=>by rw[upI_mem]; exact⟨h2.1 x,h2.2 x⟩
theorem posI_at:∀ {bs:List Int} {k:Nat} {x:Int},bs.Pairwise (· < ·)→bs[k]? = some x→posI bs x=k
 | [],k,x,_,h=>by simp at h
 | a :: bs,0,x,hs,h=>by
  obtain⟨h1,_⟩:=List.pairwise_cons.1 hs
  simp at h; subst h
  unfold posI
  rw[List.countP_eq_zero]
  intro y hy
  rcases List.mem_cons.1 hy with e | e
  ·subst e; simp
  ·have:=h1 y e; simp; omega
 | a :: bs,k+1,x,hs,h=>by
  obtain⟨h1,h2⟩:=List.pairwise_cons.1 hs
  have h':bs[k]? = some x:=by simpa using h
  have ih:=posI_at h2 h'
  have hx:a < x:=h1 x (List.mem_of_getElem? h')
  unfold posI at ih ⊢
  rw[List.countP_cons,ih]; simp[hx]
theorem zj75 {bs:List Int} {x:Int} (hs:bs.Pairwise (· < ·)) (hx:x ∈ bs):bs[posI bs x]? = some x:=by
 obtain⟨k,hk⟩:=List.getElem?_of_mem hx
 rw[posI_at hs hk]; exact hk
theorem posI_lt {bs:List Int} {x:Int} (hs:bs.Pairwise (· < ·)) (hx:x ∈ bs):posI bs x < bs.length:=(List.getElem?_eq_some_iff.1 (zj75 hs hx)).1
theorem up_get {bs:List Int} (hs:bs.Pairwise (· < ·)) {i j:Nat} {x y:Int} (hi:bs[i]? = some x) (hj:bs[j]? = some y) (h:i < j):x < y:=by
 obtain⟨h1,h2⟩:=List.getElem?_eq_some_iff.1 hi
 obtain⟨k1,k2⟩:=List.getElem?_eq_some_iff.1 hj
 have:=(List.pairwise_iff_getElem.1 hs) i j h1 k1 h
 rw[h2,k2] at this; exact this
theorem posI_below {bs:List Int} (hs:bs.Pairwise (· < ·)) {x y:Int} {k:Nat} (hk:bs[k]? = some y):k < posI bs x ↔ y < x:=by
 induction bs generalizing k with
 | nil=>simp at hk
 | cons a bs ih =>
  obtain⟨h1,h2⟩:=List.pairwise_cons.1 hs
  have e:posI (a :: bs) x=posI bs x+(if a < x then 1 else 0):=by
   unfold posI; rw[List.countP_cons]; simp
  rw[e]
  cases k with
  | zero =>
   simp at hk; subst hk
   split
   ·rename_i h; exact⟨fun _=>h,fun _=>by omega⟩
   ·rename_i h
    have e0:posI bs x=0:=by
     unfold posI; rw[List.countP_eq_zero]
     intro z hz
     have:=h1 z hz
     simp; omega
    rw[e0]; exact⟨fun h=>absurd h (by omega),fun h'=>absurd h' h⟩
  | succ k =>
   have hk':bs[k]? = some y:=by simpa using hk
   have hay:a < y:=h1 y (List.mem_of_getElem? hk')
   have:=ih h2 hk'
   split
   ·rw[← this]; omega
   ·rename_i h
    have h0:posI bs x=0:=by
     unfold posI; rw[List.countP_eq_zero]
     intro z hz
     have:=h1 z hz
     simp; omega
    rw[h0]; constructor
    ·intro h; omega
    ·intro h; omega
def bgL (l:List In):List Int:=if l=[] then [] else dpI (srtI ((0:Int) :: begL l.length 0 l))
theorem goesL_range {n i:Nat} {x:In} {t:Int} (h:t ∈ goesL n i x):0≤t∧t < n:=by
 unfold goesL at h
 split at h
 ·simp at h
 ·rw[List.mem_append] at h
  rcases h with h | h
  ·split at h
   ·rename_i h2
    simp only[Bool.and_eq_true,decide_eq_true_eq] at h2
    simp only[List.mem_singleton] at h; subst h; exact h2.2
   ·simp at h
  ·split at h
   ·rename_i h2
    simp only[Bool.and_eq_true,decide_eq_true_eq] at h2
    simp only[List.mem_singleton] at h; subst h; omega
   ·simp at h
theorem begL_mem (n:Nat) (t:Int):∀ (xs:List In) (i:Nat),t ∈ begL n i xs ↔ ∃ k y,xs[k]? = some y∧endsB y=true∧((i+k+1 < n∧t=((i+k+1:Nat):Int))∨t ∈ goesL n (i+k) y)
 | [],i=>by simp[begL]
 | x :: xs,i=>by
  unfold begL
  rw[List.mem_append,begL_mem n t xs (i+1)]
  constructor
  ·rintro (h | ⟨k,y,hk,he,h⟩)
   ·split at h
    ·rename_i he
     refine⟨0,x,rfl,he,?_⟩
     rw[List.mem_append] at h
     rcases h with h | h
     ·split at h
      ·rename_i hlt
       simp only[List.mem_singleton] at h
       exact .inl ⟨by omega,by omega⟩
      ·simp at h
     ·exact .inr (by simpa using h)
    ·simp at h
   ·refine⟨k+1,y,by simpa using hk,he,?_⟩
    have e:i+(k+1)=i+1+k:=by omega
    rw[e]; exact h
  ·rintro ⟨k,y,hk,he,h⟩
   cases k with
   | zero =>
    simp at hk; subst hk
    left
    rw[if_pos he,List.mem_append]
    rcases h with⟨h1,h2⟩ | h
    ·left; rw[if_pos (by omega)]; simp; omega
    ·right; simpa using h
   | succ k =>
    right
    refine⟨k,y,by simpa using hk,he,?_⟩
    have e:i+(k+1)=i+1+k:=by omega
    rw[e] at h; exact h
theorem bgL_mem {l:List In} (hl:l ≠ []) (t:Int):t ∈ bgL l ↔ t=0∨∃ k y,l[k]? = some y∧endsB y=true∧((k+1 < l.length∧t=((k+1:Nat):Int))∨t ∈ goesL l.length k y):=by
 unfold bgL
 rw[if_neg hl,dpI_mem,srtI_mem,List.mem_cons,begL_mem]
 simp only[Nat.zero_add]
theorem bgL_up (l:List In):(bgL l).Pairwise (· < ·):=by
 unfold bgL; split
 ·simp
 ·exact upI_up _
theorem zj2p {l:List In} {t:Int} (h:t ∈ bgL l):0≤t∧t < l.length:=by
 by_cases hl:l=[]
 ·subst hl; simp[bgL] at h
 have hpos:0 < l.length:=List.length_pos_iff.2 hl
 rw[bgL_mem hl] at h
 rcases h with h | ⟨k,y,_,_,⟨h1,h2⟩ | h⟩
 ·subst h; omega
 ·subst h2; omega
 ·exact goesL_range h
theorem bgL_len (l:List In):(bgL l).length≤3*l.length+1:=by
 unfold bgL; split
 ·simp
 ·have h1:=upI_len ((0:Int) :: begL l.length 0 l)
  have h2:=zj5b l.length 0 l
  unfold upI at h1
  rw[List.length_cons] at h1; omega
theorem bgL_zero {l:List In} (hl:l ≠ []):(bgL l)[0]? = some 0:=by
 have h0:(0:Int) ∈ bgL l:=(bgL_mem hl 0).2 (.inl rfl)
 have hp:=zj75 (bgL_up l) h0
 have:posI (bgL l) 0=0:=by
  unfold posI; rw[List.countP_eq_zero]
  intro y hy
  have:=zj2p hy
  simp; omega
 rw[this] at hp; exact hp
theorem bgL_pos {l:List In} (hl:l ≠ []):0 < (bgL l).length:=(List.getElem?_eq_some_iff.1 (bgL_zero hl)).1
theorem bgL_nil:bgL []=[]:=by simp[bgL]
def toL (n:Nat) (bs:List Int) (i:Nat):Int:=(bs[i+1]?).getD n
def goesA (l:List In) (p:Nat):List Int:=match l[p]? with | some x=>goesL l.length p x | none=>[]
def nxL (l:List In) (bs:List Int) (to:Int):List Int:=upI ((goesA l (to - 1).toNat).map fun t=>(posI bs t:Int))
structure Pa where
 fr:Int
 to:Int
 nx:List Int
deriving DecidableEq
def partL (l:List In) (bs:List Int) (i:Nat):Pa:=⟨bs.getD i 0,toL l.length bs i,nxL l bs (toL l.length bs i)⟩
def partsL (l:List In):List Pa:=(List.range (bgL l).length).map (partL l (bgL l))
theorem zj61 (l:List In):(partsL l).length=(bgL l).length:=by simp[partsL]
theorem zj62 {l:List In} {i:Nat} (h:i < (bgL l).length):(partsL l)[i]? = some (partL l (bgL l) i):=by
 unfold partsL; rw[List.getElem?_map,List.getElem?_range h]; rfl
theorem toL_range {l:List In} {i:Nat} {x:Int} (hx:(bgL l)[i]? = some x):x < toL l.length (bgL l) i∧toL l.length (bgL l) i≤l.length:=by
 unfold toL
 have hr:=zj2p (List.mem_of_getElem? hx)
 cases h:(bgL l)[i+1]? with
 | none=>simp only[Option.getD_none]; omega
 | some y =>
  have h1:=zj2p (List.mem_of_getElem? h)
  have h2:=up_get (bgL_up l) hx h (by omega)
  simp only[Option.getD_some]; omega
end Go.Isa
namespace Go.Isa
open Go
inductive Rch (nx:List (List Int)) (wo:Int):Nat→Prop where
 | base:0 < nx.length→wo ≠ 0→Rch nx wo 0
 | step {i j:Nat} {s:List Int}:Rch nx wo i→nx[i]? = some s→(j:Int) ∈ s→j < nx.length→(j:Int) ≠ wo→Rch nx wo j
theorem Rch.lt {nx:List (List Int)} {wo:Int} {i:Nat} (h:Rch nx wo i):i < nx.length:=by
 cases h with
 | base h _=>exact h
 | step _ _ _ h _=>exact h
theorem Rch.ne {nx:List (List Int)} {wo:Int} {i:Nat} (h:Rch nx wo i):(i:Int) ≠ wo:=by
 cases h with
 | base _ h=>exact fun e=>h e.symm
 | step _ _ _ _ h=>exact h
theorem Rch.zero {nx:List (List Int)} {i:Nat} (h:Rch nx 0 i):False:=by
 induction h with
 | base _ h=>exact h rfl
 | step _ _ _ _ _ ih=>exact ih
theorem Rch.all {nx:List (List Int)} {wo:Int} {i:Nat} (h:Rch nx wo i):Rch nx (-1) i:=by
 induction h with
 | base h _=>exact .base h (by omega)
 | step _ hs hj hl _ ih=>exact .step ih hs hj hl (by omega)
theorem Rch.two {nx:List (List Int)} {a b c:Nat} (h:Rch nx (-1) c) (hab:Rch nx a b) (hba:Rch nx b a):Rch nx a c∨Rch nx b c:=by
 induction h with
 | base h _ =>
  refine .inl (.base h fun e=>?_)
  rw[e] at hab
  exact hab.zero
 | @step i j s hi hs hj hl hne ih =>
  rcases ih with h | h
  ·by_cases e:j=a
   ·subst e; exact .inr hba
   ·exact .inl (.step h hs hj hl (by omega))
  ·by_cases e:j=b
   ·subst e; exact .inl hab
   ·exact .inr (.step h hs hj hl (by omega))
structure RInv (nx:List (List Int)) (wo:Int) (os:List Bool) (ws:List Int):Prop where
 len:os.length=nx.length
 snd:∀ i:Nat,os[i]? = some true→Rch nx wo i
 cand:∀ w ∈ ws,0≤w∧(w.toNat < nx.length→w ≠ wo→Rch nx wo w.toNat)
 cl:∀ (i:Nat) (s:List Int) (j:Nat),os[i]? = some true→nx[i]? = some s→(j:Int) ∈ s→j < nx.length→(j:Int) ≠ wo→os[j]? = some true∨(j:Int) ∈ ws
 zero:0 < nx.length→wo ≠ 0→os[0]? = some true∨(0:Int) ∈ ws
theorem RInv.start (nx:List (List Int)) (wo:Int):RInv nx wo (List.replicate nx.length false) [0]:=by
 have hno:∀ i:Nat,(List.replicate nx.length false)[i]? ≠ some true:=by
  intro i h
  rw[List.getElem?_replicate] at h
  split at h <;> simp at h
 refine⟨by simp,fun i h=>absurd h (hno i),fun w hw=>?_,fun i s j h=>absurd h (hno i),fun _ _=>.inr (by simp)⟩
 simp only[List.mem_singleton] at hw
 subst hw
 exact⟨Int.le_refl _,fun h hne=>.base h fun e=>hne e.symm⟩
theorem RInv.skip {nx:List (List Int)} {wo:Int} {os:List Bool} {ws:List Int} {n:Int} (h:RInv nx wo os (ws++[n])) (hs:(nx.length:Int)≤n∨n=wo∨os[n.toNat]? = some true):RInv nx wo os ws:=by
 have hn:=(h.cand n (by simp)).1
 refine⟨h.len,h.snd,fun w hw=>h.cand w (by simp[hw]),fun i s j hi hs' hj hl hne=>?_,fun hl hne=>?_⟩
 ·rcases h.cl i s j hi hs' hj hl hne with e | e
  ·exact .inl e
  ·rcases List.mem_append.1 e with e | e
   ·exact .inr e
   ·simp only[List.mem_singleton] at e
    subst e
    rcases hs with k | k | k
    ·omega
    ·exact absurd k hne
    ·left; simpa using k
 ·rcases h.zero hl hne with e | e
  ·exact .inl e
  ·rcases List.mem_append.1 e with e | e
   ·exact .inr e
   ·simp only[List.mem_singleton] at e
    subst e
    rcases hs with k | k | k
    ·omega
    ·exact absurd k.symm hne
    ·left; simpa using k
theorem RInv.mark {nx:List (List Int)} {wo:Int} {os:List Bool} {ws s:List Int} {n:Int} (h:RInv nx wo os (ws++[n])) (hnn:∀ s ∈ nx,∀ j ∈ s,(0:Int)≤j) (hlt:n < nx.length) (hne:n ≠ wo) (hs:nx[n.toNat]? = some s):RInv nx wo (os.set n.toNat true) (ws++s):=by
 obtain⟨hn,hr⟩:=h.cand n (by simp)
 have hrn:Rch nx wo n.toNat:=hr (by omega) hne
 have hin:n.toNat < os.length:=by rw[h.len]; omega
 have get:∀ i,(os.set n.toNat true)[i]? = some true ↔ i=n.toNat∨os[i]? = some true:=by
  intro i
  rw[List.getElem?_set]
  by_cases e:n.toNat=i
  ·subst e; simp[hin]
  ·rw[if_neg e]
   constructor
   ·exact .inr
   ·rintro (k | k)
    ·exact absurd k.symm e
    ·exact k
 refine⟨by rw[List.length_set]; exact h.len,fun i hi=>?_,fun w hw=>?_,fun i s' j hi hs' hj hl hne'=>?_,fun hl hne'=>?_⟩
 ·rcases (get i).1 hi with e | e
  ·subst e; exact hrn
  ·exact h.snd i e
 ·rcases List.mem_append.1 hw with e | e
  ·exact h.cand w (by simp[e])
  ·have h0:=hnn s (List.mem_of_getElem? hs) w e
   exact⟨h0,fun hl hw'=>.step hrn hs (by rw[Int.toNat_of_nonneg h0]; exact e) hl (by rw[Int.toNat_of_nonneg h0]; exact hw')⟩
 ·rcases (get i).1 hi with e | e
  ·subst e
   rw[hs] at hs'; injection hs' with hs'; subst hs'
   exact .inr (by simp[hj])
  ·rcases h.cl i s' j e hs' hj hl hne' with k | k
   ·exact .inl ((get j).2 (.inr k))
   ·rcases List.mem_append.1 k with k | k
    ·exact .inr (by simp[k])
    ·simp only[List.mem_singleton] at k
     exact .inl ((get j).2 (.inl (by omega)))
 ·rcases h.zero hl hne' with k | k
  ·exact .inl ((get 0).2 (.inr k))
  ·rcases List.mem_append.1 k with k | k
   ·exact .inr (by simp[k])
   ·simp only[List.mem_singleton] at k
    exact .inl ((get 0).2 (.inl (by omega)))
theorem RInv.fin {nx:List (List Int)} {wo:Int} {os:List Bool} (h:RInv nx wo os []) {i:Nat} {b:Bool} (hb:os[i]? = some b):b=true ↔ Rch nx wo i:=by
 have all:∀ i,Rch nx wo i→os[i]? = some true:=by
  intro i hi
  induction hi with
  | base h1 h2 =>
   rcases h.zero h1 h2 with k | k
   ·exact k
   ·simp at k
  | step _ hs hj hl hne ih =>
   rcases h.cl _ _ _ ih hs hj hl hne with k | k
   ·exact k
   ·simp at k
 constructor
 ·intro e; subst e; exact h.snd i hb
 ·intro hi
  have:=all i hi
  rw[hb] at this; injection this
def St0:List (Option Int):=List.replicate 8 none
def rgO (s:List (Option Int)):List Int:=s.map fun o=>o.getD 0
def knO (s:List (Option Int)) (n:Int):Bool:=(s.getD n.toNat none).isSome
def smallU (v:Int):Bool:=decide (v≤2147483647) || decide (18446744071562067968≤v)
def sgnU (v:Int):Int:=if v≤9223372036854775807 then v else v - 18446744073709551616
def brG (x:In):Bool:=legalB x && (decide (0≤x.imm) && decide (x.imm≤1024)) && (decide (14≤x.op) && decide (x.op≤16))
def foldK (x:In) (s:List (Option Int)):Bool:=if x.op=2 then true else if x.op=3 then knO s x.b else knO s x.b && knO s x.c
def foldI (x:In) (s:List (Option Int)) (p:Nat):In × List (Option Int) :=
 if !legalB x then (x,s)
 else if brG x then (if knO s x.a && knO s x.b then (⟨13,0,0,0,(doB x (rgO s) p).next⟩,s) else (x,s))
 else if x.op=11 then (x,s.set x.a.toNat none)
 else if x.op < 2∨10 < x.op then (x,s)
 else if foldK x s then (if x.op ≠ 2∧smallU (doB x (rgO s) p).value=true then ⟨2,x.a,0,0,sgnU (doB x (rgO s) p).value⟩ else x,s.set x.a.toNat (some (doB x (rgO s) p).value))
 else (x,s.set x.a.toNat none)
def stA (l:List In) (bs:List Int):Nat→List (Option Int)
 | 0=>St0
 | i+1=>if bs.contains (((i+1:Nat)):Int) then St0 else match l[i]? with | some x=>(foldI x (stA l bs i) i).2 | none=>St0
def foldA (l:List In) (i:Nat) (x:In):In:=(foldI x (stA l (bgL l) i) i).1
def foldL (l:List In):List In:=l.mapIdx (foldA l)
theorem zj1b (l:List In):(foldL l).length=l.length:=by simp[foldL]
theorem foldL_get {l:List In} {i:Nat} {x:In} (h:l[i]? = some x):(foldL l)[i]? = some (foldA l i x):=by
 unfold foldL; rw[List.getElem?_mapIdx,h]; rfl
theorem stA_beg {l:List In} {bs:List Int} {i:Nat} (h:(i:Int) ∈ bs):stA l bs i=St0:=by
 cases i with
 | zero=>rfl
 | succ i =>
  unfold stA
  rw[if_pos (by simpa using h)]
theorem stA_mid {l:List In} {bs:List Int} {i:Nat} {x:In} (hx:l[i]? = some x) (h:(((i+1:Nat)):Int) ∉ bs):stA l bs (i+1)=(foldI x (stA l bs i) i).2:=by
 conv=>lhs; unfold stA
 rw[if_neg (by simpa using h),hx]
theorem part_mid {l:List In} {n:Nat} {x:Int} {p:Nat} (hx:(bgL l)[n]? = some x) (h1:x < p) (h2:(p:Int) < toL l.length (bgL l) n):(p:Int) ∉ bgL l:=by
 intro hm
 have hg:=zj75 (bgL_up l) hm
 have hn:n < posI (bgL l) (p:Int):=(posI_below (bgL_up l) hx).2 h1
 unfold toL at h2
 cases hk:(bgL l)[n+1]? with
 | none =>
  have:=posI_lt (bgL_up l) hm
  have h3:(bgL l).length≤n+1:=List.getElem?_eq_none_iff.1 hk
  omega
 | some z =>
  rw[hk] at h2
  simp only[Option.getD_some] at h2
  rcases Nat.lt_or_ge (n+1) (posI (bgL l) (p:Int)) with h | h
  ·have:=up_get (bgL_up l) hk hg h; omega
  ·have e:posI (bgL l) (p:Int)=n+1:=by omega
   rw[e,hk] at hg
   injection hg with hg
   omega
end Go.Isa
namespace Go.Proofs.YtlbiogokpadaoaaGreatDoor
open Go Go.Sx Go.Isa
def leftN (gone:Nat→Bool):Nat→Nat
 | 0=>0
 | n+1=>leftN gone n+(if gone n=true then 0 else 1)
def adjI (gone:Nat→Bool) (len:Nat) (x:In):In:=if goK x ≠ 0∧x.imm < len then { x with imm:=leftN gone x.imm.toNat } else x
def dropTo (gone:Nat→Bool) (l:List In):Nat→List In
 | 0=>[]
 | i+1=>dropTo gone l i++(match l[i]? with | some x=>(if gone i=true then [] else [adjI gone l.length x]) | none=>[])
def dropP (gone:Nat→Bool) (l:List In):List In:=dropTo gone l l.length
theorem zj1r (gone:Nat→Bool):∀ n,leftN gone n≤n
 | 0=>Nat.le_refl _
 | n+1=>by have:=zj1r gone n; simp only[leftN]; split <;> omega
theorem zj2q (gone:Nat→Bool) (l:List In):∀ i,i≤l.length→(dropTo gone l i).length=leftN gone i
 | 0,_=>rfl
 | i+1,h=>by
  have:=zj2q gone l i (by omega)
  have hx:l[i]? = some (l[i]'(by omega)):=List.getElem?_eq_getElem (by omega)
  simp only[dropTo,leftN,hx,List.length_append,this]
  split <;> simp
theorem leftN_all {gone:Nat→Bool}:∀ n,leftN gone n=n→∀ k,k < n→gone k=false
 | 0,_,k,hk=>absurd hk (by omega)
 | n+1,h,k,hk=>by
  have h1:=zj1r gone n
  simp only[leftN] at h
  split at h
  ·omega
  ·rename_i hn
   by_cases e:k=n
   ·subst e; simpa using hn
   ·exact leftN_all n (by omega) k (by omega)
theorem zj3y {gone:Nat→Bool}:∀ n,(∀ k,k < n→gone k=false)→leftN gone n=n
 | 0,_=>rfl
 | n+1,h=>by
  simp only[leftN,zj3y n (fun k hk=>h k (by omega)),h n (by omega)]
  simp
theorem zj20 {gone:Nat→Bool} {n:Nat} (h:gone n=false):leftN gone (n+1)=leftN gone n+1:=by simp[leftN,h]
theorem zj2r (gone:Nat→Bool) (l:List In):(dropP gone l).length=leftN gone l.length:=zj2q gone l _ (Nat.le_refl _)
theorem dropP_le (gone:Nat→Bool) (l:List In):(dropP gone l).length≤l.length:=by rw[zj2r]; exact zj1r _ _
theorem adjI_same {gone:Nat→Bool} {l:List In} (h:∀ k,k < l.length→gone k=false) (x:In):adjI gone l.length x=x:=by
 unfold adjI
 split
 ·rename_i hx
  have h0:=zj1y hx.1
  rw[zj3y _ fun k hk=>h k (by omega)]
  cases x
  simp only[In.mk.injEq,true_and]
  simp only at h0
  omega
 ·rfl
theorem zj4g {gone:Nat→Bool} {l:List In} (h:∀ k,k < l.length→gone k=false):∀ i,i≤l.length→dropTo gone l i=l.take i
 | 0,_=>rfl
 | i+1,hi=>by
  have hx:l[i]? = some (l[i]'(by omega)):=List.getElem?_eq_getElem (by omega)
  simp only[dropTo,zj4g h i (by omega),hx,h i (by omega),adjI_same h]
  rw[List.take_add_one,hx]
  simp
theorem zj21 {gone:Nat→Bool} {l:List In} (h:(dropP gone l).length=l.length):dropP gone l=l:=by
 rw[zj2r] at h
 unfold dropP
 rw[zj4g (fun k hk=>leftN_all _ h k hk) _ (Nat.le_refl _),List.take_length]
def skipB (l:List In) (i:Nat):Bool:=match l[i]? with | some x=>decide (goK x=1∧x.imm=(i:Int)+1) | none=>false
def skip1 (l:List In):List In:=dropP (skipB l) l
def skipN:Nat→List In→List In
 | 0,l=>l
 | n+1,l=>skipN n (skip1 l)
def skipL (l:List In):List In:=skipN l.length l
theorem zj22 (l:List In):(skip1 l).length≤l.length:=dropP_le _ _
theorem zj1l {l:List In} (h:(skip1 l).length=l.length):∀ n,skipN n l=l
 | 0=>rfl
 | n+1=>by
  have e:skip1 l=l:=zj21 h
  simp only[skipN,e,zj1l h n]
theorem skipN_any:∀ (k n:Nat) (l:List In),l.length≤k→l.length≤n→skipN k l=skipN n l
 | 0,n,l,hk,_=>by
  have h:(skip1 l).length=l.length:=by have:=zj22 l; omega
  rw[zj1l h,zj1l h]
 | k+1,0,l,_,hn=>by
  have h:(skip1 l).length=l.length:=by have:=zj22 l; omega
  rw[zj1l h,zj1l h]
 | k+1,n+1,l,hk,hn=>by
  by_cases h:(skip1 l).length=l.length
  ·rw[zj1l h,zj1l h]
  ·have:=zj22 l
   simp only[skipN]
   exact skipN_any k n _ (by omega) (by omega)
theorem skipL_of {n:Nat} {l:List In} (h:l.length≤n):skipN n l=skipL l:=skipN_any _ _ _ h (Nat.le_refl _)
theorem skipL_fix {l:List In} (h:(skip1 l).length=l.length):skipL l=l:=zj1l h _
theorem skipL_step (l:List In):skipL (skip1 l)=skipL l:=by
 rw[← skipL_of (n:=l.length) (zj22 l),← skipL_of (n:=l.length+1) (l:=l) (by omega)]
 rfl
theorem zj5c:∀ (n:Nat) (l:List In),(skipN n l).length≤l.length
 | 0,_=>Nat.le_refl _
 | n+1,l=>Nat.le_trans (zj5c n _) (zj22 l)
theorem zj2s (l:List In):(skipL l).length≤l.length:=zj5c _ _
def Chn (l:List In):List Int→Int→Prop
 | [],_=>True
 | q :: led,p=>(∃ x,l[q.toNat]? = some x∧goK x=1∧x.imm=p)∧Chn l led q
theorem ledOk1 {cs:List In} {p:Int} (h:0≤p):LedOk cs [] p:=⟨List.nodup_nil,by simp,by simp,h⟩
theorem chn_from {l:List In}:∀ {led:List Int} {p:Int},LedOk l led p→Chn l led p→∀ r,r ∈ p :: led→∃ led',(∀ q ∈ led',q ∈ led)∧LedOk l led' p∧r ∈ p :: led'∧thr l l.length [] r=thr l l.length led' p
 | led,p,h,hc,r,hr=>by
  rcases List.mem_cons.1 hr with e | hr
  ·subst e
   exact⟨[],by simp,ledOk1 h.p0,by simp,rfl⟩
  ·match led,h,hc,hr with
   | q :: led2,h,⟨⟨x,hx,hg,him⟩,hc2⟩,hr =>
    have hnd:=List.nodup_cons.1 h.nd
    have hq:=h.rg q (by simp)
    have h2:LedOk l led2 q:=⟨hnd.2,fun s hs=>h.rg s (List.mem_cons_of_mem _ hs),hnd.1,hq.1⟩
    obtain⟨led',hsub,hok,hm,he⟩:=chn_from h2 hc2 r hr
    have hno:p ∉ q :: led':=fun hp=>h.no (by
     rcases List.mem_cons.1 hp with e | hp
     ·subst e; simp
     ·exact List.mem_cons_of_mem _ (hsub p hp))
    have hst:=thr_all hok hx ⟨hg,by rw[him]; exact hno⟩
    rw[him] at hst
    refine⟨q :: led',fun s hs=>?_,hok.step hq.2 hno h.p0,?_,he.trans hst⟩
    ·rcases List.mem_cons.1 hs with e | hs
     ·subst e; simp
     ·exact List.mem_cons_of_mem _ (hsub s hs)
    ·exact List.mem_cons_of_mem _ hm
def EndAt (l:List In) (q:Int):Prop:=∀ x,l[q.toNat]? = some x→goK x=1→thr l l.length [] x.imm=q
theorem thr_endAt {l:List In}:∀ (n:Nat) (led:List Int) (p:Int),LedOk l led p→Chn l led p→l.length≤led.length+n→EndAt l (thr l n led p)
 | 0,led,p,h,_,hn=>by
  intro x hx _
  exfalso
  have hx:l[p.toNat]? = some x:=hx
  have hp:=at_of h.p0 hx
  have:=zj27 l.length (p :: led) (List.nodup_cons.2 ⟨h.no,h.nd⟩) (fun r hr=>by
   rcases List.mem_cons.1 hr with rfl | hr
   ·exact⟨h.p0,hp⟩
   ·exact h.rg r hr)
  simp at this; omega
 | n+1,led,p,h,hc,hn=>by
  cases hx:l[p.toNat]? with
  | none=>rw[thr_end hx]; intro x hx'; rw[hx] at hx'; cases hx'
  | some x =>
   by_cases hg:goK x=1∧x.imm ∉ p :: led
   ·rw[thr_on hx hg]
    have hp:=at_of h.p0 hx
    exact thr_endAt n _ _ (h.step hp hg.2 (zj1y (by rw[hg.1]; decide)).1) ⟨⟨x,hx,hg.1,rfl⟩,hc⟩ (by simp; omega)
   ·rw[zj58 hx hg]
    intro y hy hgy
    rw[hx] at hy; injection hy with hy; subst hy
    have hin:x.imm ∈ p :: led:=Classical.byContradiction fun hh=>hg ⟨hgy,hh⟩
    obtain⟨led',hsub,hok,hm,he⟩:=chn_from h hc _ hin
    rw[he,zj58 hx fun hh=>hh.2 hm]
theorem legal_imm (x:In) (q:Int):legalB { x with imm:=q }=legalB x:=rfl
theorem goK_imm2 (x:In) {q:Int} (h0:0≤q) (h1:q≤1024) (hx:goK x ≠ 0):goK { x with imm:=q }=goK x:=by
 have hi:=zj1y hx
 unfold goK
 rw[legal_imm]
 simp only[h0,h1,hi,and_true]
theorem goK_thrI (l:List In) (x:In):goK (thrI l x)=goK x:=by
 unfold thrI
 split
 ·rfl
 ·rename_i h
  have hi:=zj1y h
  have:=thr_rg l l.length [] x.imm hi.1 hi.2
  exact goK_imm2 x this.1 this.2 h
theorem thrI_op (l:List In) (x:In):(thrI l x).op=x.op:=by unfold thrI; split <;> rfl
theorem zj76 (l:List In):zj0a (zj0a l)=zj0a l:=by
 have hlen:=zj18 l
 unfold zj0a at *
 rw[List.map_map]
 refine List.map_congr_left fun x _=>?_
 show thrI (l.map (thrI l)) (thrI l x)=thrI l x
 by_cases hg:goK x=0
 ·have e:thrI l x=x:=by unfold thrI; rw[if_pos hg]
  rw[e]
  unfold thrI
  rw[if_pos hg]
 ·have hi:=zj1y hg
  have hq:=thr_rg l l.length [] x.imm hi.1 hi.2
  have hend:=thr_endAt (l:=l) l.length [] x.imm (ledOk1 hi.1) trivial (Nat.le_add_left _ _)
  have e:thrI l x={ x with imm:=thr l l.length [] x.imm }:=by unfold thrI; rw[if_neg hg]
  have hgt:=goK_thrI l x
  generalize thr l l.length [] x.imm=q at *
  rw[e] at hgt ⊢
  have:thr (l.map (thrI l)) (l.map (thrI l)).length [] q=q:=by
   cases hx:l[q.toNat]? with
   | none=>exact thr_end (by rw[List.getElem?_map,hx]; rfl)
   | some y =>
    have hy:(l.map (thrI l))[q.toNat]? = some (thrI l y):=by rw[List.getElem?_map,hx]; rfl
    refine zj58 hy fun hh=>?_
    have h1:goK y=1:=by rw[← goK_thrI l y]; exact hh.1
    have h2:=hend y hx h1
    have h3:(thrI l y).imm=q:=by
     unfold thrI
     rw[if_neg (by rw[h1]; decide)]
     exact h2
    exact hh.2 (by rw[h3]; simp)
  have e2:∀ (m:List In) (z:In),goK z ≠ 0→thrI m z={ z with imm:=thr m m.length [] z.imm }:=fun m z hz=>by unfold thrI; rw[if_neg hz]
  rw[e2 _ _ (by rw[hgt]; exact hg)]
  simp only[this]
open Go.Lint
open Classical in
noncomputable def neverB (l:List In) (i:Nat):Bool:=decide (¬ Go.Lint.Reach l ((i:Int),false)∧¬ Go.Lint.Reach l ((i:Int),true))
noncomputable def trimL (l:List In):List In:=dropP (neverB l) l
theorem zj1s {l:List In} {i:Nat}:neverB l i=false ↔ ∃ b,Go.Lint.Reach l ((i:Int),b):=by
 unfold neverB
 rw[decide_eq_false_iff_not]
 constructor
 ·intro h
  by_cases h1:Go.Lint.Reach l ((i:Int),false)
  ·exact⟨_,h1⟩
  ·exact⟨true,Classical.byContradiction fun h2=>h ⟨h1,h2⟩⟩
 ·rintro ⟨b,hb⟩ ⟨h1,h2⟩
  cases b
  ·exact h1 hb
  ·exact h2 hb
theorem zj3e (l:List In):(trimL l).length≤l.length:=dropP_le _ _
theorem dropTo_at {gone:Nat→Bool} {l:List In}:∀ (i n:Nat) (x:In),i < n→n≤l.length→l[i]? = some x→gone i=false→(dropTo gone l n)[leftN gone i]? = some (adjI gone l.length x)
 | i,0,_,h,_,_,_=>by omega
 | i,n+1,x,h,hn,hx,hg=>by
  have hlen:=zj2q gone l n (by omega)
  simp only[dropTo]
  by_cases e:i=n
  ·subst e
   rw[hx,List.getElem?_append_right (by rw[hlen]; exact Nat.le_refl _),hlen,Nat.sub_self]
   simp only[hg]
   rfl
  ·have hm:=dropTo_at i n x (by omega) (by omega) hx hg
   rw[List.getElem?_append_left (List.getElem?_eq_some_iff.1 hm).1,hm]
theorem dropP_at {gone:Nat→Bool} {l:List In} {i:Nat} {x:In} (hx:l[i]? = some x) (hg:gone i=false):(dropP gone l)[leftN gone i]? = some (adjI gone l.length x) :=
 dropTo_at i l.length x (List.getElem?_eq_some_iff.1 hx).1 (Nat.le_refl _) hx hg
theorem left_onto {gone:Nat→Bool}:∀ (n k:Nat),k < leftN gone n→∃ i,i < n∧gone i=false∧leftN gone i=k
 | 0,k,h=>absurd h (Nat.not_lt_zero _)
 | n+1,k,h=>by
  by_cases hk:k < leftN gone n
  ·obtain⟨i,h1,h2,h3⟩:=left_onto n k hk
   exact⟨i,by omega,h2,h3⟩
  ·cases hg:gone n with
   | true=>simp[leftN,hg] at h; omega
   | false =>
    rw[zj20 hg] at h
    exact⟨n,by omega,hg,by omega⟩
theorem adjI_op (gone:Nat→Bool) (n:Nat) (x:In):(adjI gone n x).op=x.op:=by unfold adjI; split <;> rfl
theorem zj3z (gone:Nat→Bool) (n:Nat) (x:In):legalB (adjI gone n x)=legalB x:=by unfold adjI; split <;> rfl
theorem reach_left {l:List In} (hl:l.length≤1024) {s:Spot} (h:Go.Lint.Reach l s):0≤s.1∧(s.1 < l.length→Go.Lint.Reach (trimL l) ((leftN (neverB l) s.1.toNat:Nat),s.2)):=by
 induction h with
 | start=>exact⟨Int.le_refl _,fun _=>.start⟩
 | step s n x hr hx hlg hn ih =>
  obtain⟨h0,ih⟩:=ih
  have hn0:=(Go.Lint.nxt_range h0 hx hl hn).1
  refine⟨hn0,fun hlt=>?_⟩
  have hs:s.1.toNat < l.length:=(List.getElem?_eq_some_iff.1 hx).1
  have hs':s.1 < l.length:=by omega
  have es:((s.1.toNat:Nat):Int)=s.1:=by omega
  have en:((n.1.toNat:Nat):Int)=n.1:=by omega
  have hg:neverB l s.1.toNat=false:=zj1s.2 ⟨s.2,by rw[es]; exact hr⟩
  have hat:=dropP_at hx hg
  refine .step _ _ (adjI (neverB l) l.length x) (ih hs') (by simpa [trimL] using hat) (by rw[zj3z]; exact hlg) ?_
  have hop:=adjI_op (neverB l) l.length x
  have st:=zj20 hg
  have e1:∀ b:Bool,n=(s.1+1,b)→(((leftN (neverB l) n.1.toNat:Nat):Int),n.2)=(((leftN (neverB l) s.1.toNat:Nat):Int)+1,b):=by
   rintro b rfl
   have:(s.1+1).toNat=s.1.toNat+1:=by omega
   simp only[this,st]
   simp
  have e2:∀ b:Bool,n=(x.imm,b)→13≤x.op→x.op≤16→x.imm≤1024→(((leftN (neverB l) n.1.toNat:Nat):Int),n.2)=((adjI (neverB l) l.length x).imm,b):=by
   rintro b rfl h1 h2 h3
   have hk:goK x ≠ 0:=by
    have:goK x=if x.op=13 then 1 else if 14≤x.op∧x.op≤16 then 2 else 0:=by unfold goK; rw[if_pos ⟨hlg,hn0,h3⟩]
    rw[this]
    split
    ·decide
    ·rw[if_pos (by omega)]; decide
   have hlt:x.imm < l.length:=hlt
   unfold adjI
   rw[if_pos ⟨hk,hlt⟩]
  have e3:13≤x.op→x.op≤16→¬ (x.imm < 0∨1024 < x.imm)→¬ ((adjI (neverB l) l.length x).imm < 0∨1024 < (adjI (neverB l) l.length x).imm):=by
   intro _ _ h3
   unfold adjI
   split
   ·have:=zj1r (neverB l) x.imm.toNat
    show ¬ (((leftN (neverB l) x.imm.toNat:Nat):Int) < 0∨1024 < ((leftN (neverB l) x.imm.toNat:Nat):Int))
    omega
   ·exact h3
  generalize (((leftN (neverB l) n.1.toNat:Nat):Int),n.2)=q at *
  unfold nxt at hn ⊢
  rw[hop]
  split at hn
  ·simp at hn
  rw[if_neg (by assumption)]
  split at hn
  ·simp at hn
  rw[if_neg (by assumption)]
  split at hn
  ·simp at hn
  rw[if_neg (by assumption)]
  split at hn
  ·rw[if_pos (by assumption)]
   rw[List.mem_singleton] at hn ⊢
   exact e1 _ hn
  rw[if_neg (by assumption)]
  split at hn
  ·rename_i hbr
   rw[if_pos hbr]
   rcases List.mem_append.1 hn with hn | hn
   ·refine List.mem_append_left _ ?_
    split at hn
    ·simp at hn
    ·rename_i h3
     rw[if_neg (e3 hbr.1 hbr.2 h3),List.mem_singleton]
     exact e2 _ (List.mem_singleton.1 hn) hbr.1 hbr.2 (by omega)
   ·refine List.mem_append_right _ ?_
    split at hn
    ·simp at hn
    ·rw[if_neg (by assumption),List.mem_singleton]
     exact e1 _ (List.mem_singleton.1 hn)
  ·rw[if_neg (by assumption)]
   rw[List.mem_singleton] at hn ⊢
   exact e1 _ hn
theorem zj63 {l:List In} (hl:l.length≤1024) (k:Nat) (hk:k < (trimL l).length):neverB (trimL l) k=false:=by
 rw[trimL,zj2r] at hk
 obtain⟨i,hi,hg,rfl⟩:=left_onto _ _ hk
 obtain⟨b,hb⟩:=zj1s.1 hg
 exact zj1s.2 ⟨b,(reach_left hl hb).2 (by show (i:Int) < l.length; omega)⟩
end Go.Proofs.YtlbiogokpadaoaaGreatDoor
namespace Go.Proofs.YtlbiogokpadaoaaGreatDoor
open Go Go.Sx Go.Isa
noncomputable def optR (l:List In):List In:=trimL (skipL (zj0a (foldL l)))
noncomputable def optN:Nat→List In→List In
 | 0,l=>l
 | n+1,l=>if optR l=l then l else optN n (optR l)
def nfI (x:In):Bool:=legalB x && ((decide (14≤x.op) && decide (x.op≤16)) || (decide (3≤x.op) && decide (x.op≤10)))
def nfL (l:List In):Nat:=l.countP nfI
theorem foldI_nf (x:In) (s:List (Option Int)) (p:Nat):(foldI x s p).1=x∨(nfI x=true∧nfI (foldI x s p).1=false):=by
 unfold foldI
 split
 ·exact .inl rfl
 ·rename_i hl
  have hl:legalB x=true:=by simpa using hl
  split
  ·rename_i hb
   split
   ·right
    unfold brG at hb
    simp only[Bool.and_eq_true,decide_eq_true_eq] at hb
    refine⟨?_,?_⟩
    ·unfold nfI; rw[hl]; simp[hb.2]
    ·simp[nfI]
   ·exact .inl rfl
  ·split
   ·exact .inl rfl
   ·rename_i h11
    split
    ·exact .inl rfl
    ·rename_i hop
     split
     ·simp only
      split
      ·rename_i h2
       right
       refine⟨?_,?_⟩
       ·unfold nfI; rw[hl]
        have:3≤x.op:=by omega
        have:x.op≤10:=by omega
        simp[*]
       ·simp[nfI]
      ·exact .inl rfl
     ·exact .inl rfl
theorem zj36 {α:Type} (p:α→Bool) (f:Nat→α→α) (h:∀ i x,f i x=x∨(p x=true∧p (f i x)=false)):∀ (l:List α),(l.mapIdx f).countP p≤l.countP p∧((l.mapIdx f).countP p=l.countP p→l.mapIdx f=l)
 | []=>by simp
 | x :: l=>by
  rw[List.mapIdx_cons]
  obtain⟨h1,h2⟩:=zj36 p (fun i=>f (i+1)) (fun i x=>h (i+1) x) l
  rw[List.countP_cons,List.countP_cons]
  rcases h 0 x with e | ⟨e1,e2⟩
  ·rw[e]
   refine⟨by omega,fun k=>?_⟩
   rw[h2 (by omega)]
  ·rw[e1,e2]
   simp only[Bool.false_eq_true,if_false,if_true]
   exact⟨by omega,fun k=>by omega⟩
theorem zj5d (l:List In):nfL (foldL l)≤nfL l∧(nfL (foldL l)=nfL l→foldL l=l) :=
 zj36 nfI (foldA l) (fun i x=>foldI_nf x _ i) l
theorem zj40 (l:List In):nfL (zj0a l)=nfL l:=by
 unfold nfL zj0a
 rw[List.countP_map]
 congr 1
 funext x
 show nfI (thrI l x)=nfI x
 have h1:=thrI_op l x
 have h2:legalB (thrI l x)=legalB x:=by unfold thrI; split <;> rfl
 unfold nfI; rw[h1,h2]
theorem adjI_nf (gone:Nat→Bool) (n:Nat) (x:In):nfI (adjI gone n x)=nfI x:=by
 unfold nfI; rw[adjI_op,zj3z]
theorem dropTo_nf (gone:Nat→Bool) (l:List In):∀ i,i≤l.length→nfL (dropTo gone l i)≤nfL (l.take i)
 | 0,_=>by simp[dropTo,nfL]
 | i+1,h=>by
  have ih:=dropTo_nf gone l i (by omega)
  have hx:l[i]? = some l[i]:=List.getElem?_eq_getElem (by omega)
  have et:l.take (i+1)=l.take i++[l[i]]:=by rw[List.take_add_one,hx]; rfl
  rw[et]
  unfold nfL at *
  unfold dropTo
  rw[hx]
  simp only[List.countP_append]
  split
  ·simp only[List.countP_nil]; omega
  ·simp only[List.countP_cons,List.countP_nil,adjI_nf]
   omega
theorem dropP_nf (gone:Nat→Bool) (l:List In):nfL (dropP gone l)≤nfL l:=by
 have:=dropTo_nf gone l l.length (Nat.le_refl _)
 rw[List.take_length] at this; exact this
theorem skipN_nf:∀ (n:Nat) (l:List In),nfL (skipN n l)≤nfL l
 | 0,l=>Nat.le_refl _
 | n+1,l=>Nat.le_trans (skipN_nf n (skip1 l)) (dropP_nf _ _)
theorem skipL_nf (l:List In):nfL (skipL l)≤nfL l:=skipN_nf _ _
theorem trimL_nf (l:List In):nfL (trimL l)≤nfL l:=dropP_nf _ _
theorem zj64:∀ (n:Nat) {l:List In},(skipN n l).length=l.length→skipN n l=l
 | 0,l,_=>rfl
 | n+1,l,h=>by
  have h1:(skipN (n+1) l).length=(skipN n (skip1 l)).length:=rfl
  have h2:=zj5c n (skip1 l)
  have h3:=zj22 l
  have e:skip1 l=l:=zj21 (by show (skip1 l).length=_; omega)
  show skipN n (skip1 l)=l
  rw[e] at h1 ⊢
  exact zj64 n (by omega)
theorem zj65 {l:List In} (h:(skipL l).length=l.length):skipL l=l:=zj64 _ h
theorem trimL_same {l:List In} (h:(trimL l).length=l.length):trimL l=l:=zj21 h
theorem zj77 (l:List In):(optR l).length≤l.length:=by
 unfold optR
 have h1:=zj3e (skipL (zj0a (foldL l)))
 have h2:=zj2s (zj0a (foldL l))
 rw[zj18,zj1b] at h2
 omega
theorem optR_nf (l:List In):nfL (optR l)≤nfL l:=by
 unfold optR
 have h1:=trimL_nf (skipL (zj0a (foldL l)))
 have h2:=skipL_nf (zj0a (foldL l))
 rw[zj40] at h2
 have h3:=(zj5d l).1
 omega
theorem optR_long {l:List In} (h:(optR l).length=l.length):optR l=zj0a (foldL l):=by
 unfold optR at h ⊢
 have h1:=zj3e (skipL (zj0a (foldL l)))
 have h2:=zj2s (zj0a (foldL l))
 have h4:(zj0a (foldL l)).length=l.length:=by rw[zj18,zj1b]
 rw[h4] at h2
 have e:skipL (zj0a (foldL l))=zj0a (foldL l):=zj65 (by omega)
 rw[e] at h h1 ⊢
 exact trimL_same (by omega)
def phiL (l:List In):Nat:=2*l.length+nfL l+(if zj0a l=l then 0 else 1)
theorem zj2f {l:List In} (h:optR l ≠ l):phiL (optR l) < phiL l:=by
 have h1:=zj77 l
 have h2:=optR_nf l
 unfold phiL
 by_cases hl:(optR l).length=l.length
 ·have e:=optR_long hl
  have ht:zj0a (optR l)=optR l:=by rw[e,zj76]
  rw[if_pos ht]
  by_cases hn:nfL (optR l)=nfL l
  ·have hf:foldL l=l:=(zj5d l).2 (by
    have:=(zj5d l).1
    rw[e,zj40] at hn
    exact hn)
   rw[hf] at e
   have:zj0a l ≠ l:=by rw[← e]; exact h
   rw[if_neg this]
   omega
  ·omega
 ·split <;> split <;> omega
theorem optN_any:∀ (n m:Nat) (l:List In),phiL l≤n→phiL l≤m→optN n l=optN m l
 | 0,0,_,_,_=>rfl
 | 0,m+1,l,h,_=>by
  show l=optN (m+1) l
  unfold optN
  rw[if_pos]
  refine Classical.byContradiction fun hc=>?_
  have:=zj2f hc; omega
 | n+1,0,l,_,h=>by
  show optN (n+1) l=l
  unfold optN
  rw[if_pos]
  refine Classical.byContradiction fun hc=>?_
  have:=zj2f hc; omega
 | n+1,m+1,l,h1,h2=>by
  unfold optN
  split
  ·rfl
  ·rename_i hc
   have:=zj2f hc
   exact optN_any n m (optR l) (by omega) (by omega)
noncomputable def optL (l:List In):List In:=optN (phiL l) l
theorem optL_of {n:Nat} {l:List In} (h:phiL l≤n):optN n l=optL l:=optN_any _ _ _ h (Nat.le_refl _)
theorem zj78 {l:List In} (h:optR l=l):optL l=l:=by
 rw[← optL_of (n:=phiL l+1) (by omega)]
 unfold optN; rw[if_pos h]
theorem zj3f {l:List In} (h:optR l ≠ l):optL l=optL (optR l):=by
 rw[← optL_of (n:=phiL l+1) (by omega)]
 conv=>lhs; unfold optN
 rw[if_neg h]
 exact optL_of (by have:=zj2f h; omega)
theorem optN_end:∀ (n:Nat) (l:List In),phiL l≤n→optR (optN n l)=optN n l
 | 0,l,h=>by
  refine Classical.byContradiction fun hc=>?_
  have:=zj2f (l:=l) hc
  omega
 | n+1,l,h=>by
  unfold optN
  split
  ·assumption
  ·rename_i hc
   have:=zj2f hc
   exact optN_end n (optR l) (by omega)
theorem optL_end (l:List In):optR (optL l)=optL l:=optN_end _ _ (Nat.le_refl _)
theorem optN_len:∀ (n:Nat) (l:List In),(optN n l).length≤l.length
 | 0,l=>Nat.le_refl _
 | n+1,l=>by
  unfold optN
  split
  ·exact Nat.le_refl _
  ·exact Nat.le_trans (optN_len n _) (zj77 l)
theorem zj79 (l:List In):(optL l).length≤l.length:=optN_len _ _
theorem optR_parts {l:List In} (h:optR l=l):foldL l=l∧zj0a l=l∧skipL l=l∧trimL l=l:=by
 have e:=optR_long (l:=l) (by rw[h])
 have hf:foldL l=l:=(zj5d l).2 (by
  have h3:nfL (optR l)=nfL l:=by rw[h]
  rw[e,zj40] at h3
  exact h3)
 rw[hf,h] at e
 have et:zj0a l=l:=e.symm
 have hs:optR l=trimL (skipL l):=by unfold optR; rw[hf,et]
 have h1:=zj3e (skipL l)
 have h2:=zj2s l
 rw[← hs,h] at h1
 have es:skipL l=l:=zj65 (by omega)
 rw[es] at hs
 exact⟨hf,et,es,by rw[← hs]; exact h⟩
end Go.Proofs.YtlbiogokpadaoaaGreatDoor
