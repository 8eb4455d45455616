/- flow: where parts begin, and what they are, in plain words. -/
import Derived.Test.YtlbiogokpadaoaaGreatDoorIsaSpec
set_option linter.unusedSimpArgs false
set_option linter.unusedVariables false
set_option linter.unnecessarySimpa false
namespace Go.Isa
open Go Go.Sx
def isV (l:List Int):List Value:=l.map fun n=>.int .i64 n
theorem zj4r (l:List Int):(isV l).length=l.length:=by simp[isV]
theorem zj3b (l:List Int) (j:Nat) (x:Int) (h:l[j]? = some x):(isV l)[j]? = some (.int .i64 x):=by
 unfold isV; rw[List.getElem?_map,h]; rfl
def dpI:List Int→List Int
 | []=>[]
 | [x]=>[x]
 | x :: y :: r=>if x=y then dpI (y :: r) else x :: dpI (y :: r)
theorem zj7e (y:Int):∀ (l:List Int) (x:Int),dpI (l++[x]++[y])=if x=y then dpI (l++[x]) else dpI (l++[x])++[y]
 | [],x=>by
  by_cases h:x=y
  ·subst h; simp[dpI]
  ·simp[dpI,h]
 | [a],x=>by
  have:=zj7e y [] x
  simp only[List.nil_append,List.cons_append] at *
  by_cases h:a=x
  ·simp only[dpI,h,if_true] at *
   split <;> simp_all
  ·simp only[dpI,h,if_false] at *
   split <;> simp_all
 | a :: c :: l,x=>by
  have:=zj7e y (c :: l) x
  simp only[List.cons_append] at *
  by_cases h:a=c
  ·simp only[dpI,h,if_true] at *
   exact this
  ·simp only[dpI,h,if_false] at *
   rw[this]
   split <;> simp
theorem zj1t {l:List Int} {k:Nat} {x:Int} (h:l[k]? = some x):l.take (k+1)=l.take k++[x]:=by
 rw[List.take_add_one,h]; rfl
theorem zj7f {l:List Int} {k:Nat} {x y:Int} (hx:l[k]? = some x) (hy:l[k+1]? = some y):dpI (l.take (k+2))=if x=y then dpI (l.take (k+1)) else dpI (l.take (k+1))++[y]:=by
 rw[zj1t hy,zj1t hx]
 exact zj7e y _ x
theorem dpI_len:∀ (l:List Int),(dpI l).length≤l.length
 | []=>by simp[dpI]
 | [x]=>by simp[dpI]
 | x :: y :: r=>by
  have:=dpI_len (y :: r)
  simp only[dpI]
  split <;> simp at*<;> omega
def srtI (l:List Int):List Int:=l.mergeSort fun x y=>decide (x≤y)
theorem srtI_up (l:List Int):(srtI l).Pairwise (·≤·):=by
 have:=List.pairwise_mergeSort (le:=fun x y:Int=>decide (x≤y)) (fun a b c h1 h2=>by simp at *; omega) (fun a b=>by simp; omega) l
 exact this.imp fun h=>by simpa using h
theorem srtI_mem (l:List Int) (x:Int):x ∈ srtI l ↔ x ∈ l:=(List.mergeSort_perm l _).mem_iff
def posI (l:List Int) (x:Int):Nat:=l.countP fun y=>decide (y < x)
def brB (op:Int):Bool:=decide (13≤op) && decide (op≤16)
def endsB (x:In):Bool:=!legalB x || (x.op == 1 || brB x.op)
def goesL (n i:Nat) (x:In):List Int:=if !legalB x || x.op == 1 then [] else (if brB x.op && (decide (0≤x.imm) && decide (x.imm < n)) then [x.imm] else [])++(if !(x.op == 13) && decide (i+1 < n) then [((i:Int)+1)] else [])
def begL (n:Nat):Nat→List In→List Int
 | _,[]=>[]
 | i,x :: r=>(if endsB x then (if i+1 < n then [((i:Int)+1)] else [])++goesL n i x else [])++begL n (i+1) r
def begT (l:List In) (i:Nat):List Int:=0 :: begL l.length 0 (l.take i)
def begS (n i:Nat) (x:In):List Int:=if endsB x then (if i+1 < n then [((i:Int)+1)] else [])++goesL n i x else []
theorem begL_snoc (n:Nat):∀ (xs:List In) (j:Nat) (x:In),begL n j (xs++[x])=begL n j xs++begS n (j+xs.length) x
 | [],j,x=>by simp[begL,begS]
 | y :: xs,j,x=>by
  have ih:=begL_snoc n xs (j+1) x
  have e:j+1+xs.length=j+(y :: xs).length:=by rw[List.length_cons]; omega
  rw[e] at ih
  rw[List.cons_append]
  show (if endsB y then _ else _)++begL n (j+1) (xs++[x])=_
  rw[ih,← List.append_assoc]; rfl
theorem begT_step {l:List In} {i:Nat} {x:In} (hx:l[i]? = some x):begT l (i+1)=begT l i++begS l.length i x:=by
 have hi:i < l.length:=(List.getElem?_eq_some_iff.1 hx).1
 have e:l.take (i+1)=l.take i++[x]:=by rw[List.take_add_one,hx]; rfl
 unfold begT
 rw[e,begL_snoc,List.length_take,Nat.min_eq_left (by omega),Nat.zero_add,List.cons_append]
theorem zj3l (n i:Nat) (x:In):(goesL n i x).length≤2:=by
 unfold goesL
 split
 ·simp
 ·rw[List.length_append]; split <;> split <;> simp
theorem zj5s (n:Nat):∀ (i:Nat) (xs:List In),(begL n i xs).length≤3*xs.length
 | _,[]=>by simp[begL]
 | i,x :: r=>by
  have h1:=zj5s n (i+1) r
  have h2:=zj3l n i x
  unfold begL
  rw[List.length_append,List.length_cons]
  split
  ·rw[List.length_append]; split <;> simp only[List.length_cons,List.length_nil] <;> omega
  ·simp only[List.length_nil]; omega
theorem dpI_mem (x:Int):∀ (l:List Int),x ∈ dpI l ↔ x ∈ l
 | []=>by simp[dpI]
 | [a]=>by simp[dpI]
 | a :: b :: r=>by
  have ih:=dpI_mem x (b :: r)
  simp only[dpI]
  split
  ·rename_i h
   subst h
   rw[ih]; simp
  ·rw[List.mem_cons,ih,List.mem_cons (a:=x) (b:=a)]
theorem dpI_up:∀ (l:List Int),l.Pairwise (·≤·)→(dpI l).Pairwise (· < ·)
 | [],_=>by simp[dpI]
 | [a],_=>by simp[dpI]
 | a :: b :: r,h=>by
  obtain⟨h1,h2⟩:=List.pairwise_cons.1 h
  have ih:=dpI_up (b :: r) h2
  simp only[dpI]
  split
  ·exact ih
  ·rename_i hne
   refine List.pairwise_cons.2 ⟨fun x hx=>?_,ih⟩
   rw[dpI_mem] at hx
   have h3:=h1 b (by simp)
   have h4:b≤x:=by
    rcases List.mem_cons.1 hx with h | h
    ·subst h; exact Int.le_refl _
    ·exact (List.pairwise_cons.1 h2).1 x h
   omega
def upI (l:List Int):List Int:=dpI (srtI l)
theorem upI_mem (l:List Int) (x:Int):x ∈ upI l ↔ x ∈ l:=by unfold upI; rw[dpI_mem,srtI_mem]
theorem upI_up (l:List Int):(upI l).Pairwise (· < ·):=dpI_up _ (srtI_up l)
theorem srtI_len (l:List Int):(srtI l).length=l.length:=List.length_mergeSort _
theorem upI_len (l:List Int):(upI l).length≤l.length:=by
 have:=dpI_len (srtI l)
 rw[srtI_len] at this; exact this
theorem up_ext:∀ {l m:List Int},l.Pairwise (· < ·)→m.Pairwise (· < ·)→(∀ x,x ∈ l ↔ x ∈ m)→l=m
 | [],[],_,_,_=>rfl
 | [],b :: m,_,_,h=>absurd ((h b).2 (by simp)) (by simp)
 | a :: l,[],_,_,h=>absurd ((h a).1 (by simp)) (by simp)
 | a :: l,b :: m,hl,hm,h=>by
  obtain⟨h1,h2⟩:=List.pairwise_cons.1 hl
  obtain⟨k1,k2⟩:=List.pairwise_cons.1 hm
  have e:a=b:=by
   have p:=(h a).1 (by simp)
   have q:=(h b).2 (by simp)
   rcases List.mem_cons.1 p with p | p
   ·exact p
   ·rcases List.mem_cons.1 q with q | q
    ·exact q.symm
    ·have:=h1 b q; have:=k1 a p; omega
  subst e
  congr 1
  refine up_ext h2 k2 fun x=>⟨fun hx=>?_,fun hx=>?_⟩
  ·rcases List.mem_cons.1 ((h x).1 (by simp[hx])) with e | e
   ·subst e; have:=h1 x hx; omega
   ·exact e
  ·rcases List.mem_cons.1 ((h x).2 (by simp[hx])) with e | e
   ·subst e; have:=k1 x hx; omega
   ·exact e
theorem posI_at:∀ {bs:List Int} {k:Nat} {x:Int},bs.Pairwise (· < ·)→bs[k]? = some x→posI bs x=k
 | [],k,x,_,h=>by simp at h
 | a :: bs,0,x,hs,h=>by
  obtain⟨h1,_⟩:=List.pairwise_cons.1 hs
  simp at h; subst h
  unfold posI
  rw[List.countP_eq_zero]
  intro y hy
  rcases List.mem_cons.1 hy with e | e
  ·subst e; simp
  ·have:=h1 y e; simp; omega
 | a :: bs,k+1,x,hs,h=>by
  obtain⟨h1,h2⟩:=List.pairwise_cons.1 hs
  have h':bs[k]? = some x:=by simpa using h
  have ih:=posI_at h2 h'
  have hx:a < x:=h1 x (List.mem_of_getElem? h')
  unfold posI at ih ⊢
  rw[List.countP_cons,ih]; simp[hx]
theorem zj7g {bs:List Int} {x:Int} (hs:bs.Pairwise (· < ·)) (hx:x ∈ bs):bs[posI bs x]? = some x:=by
 obtain⟨k,hk⟩:=List.getElem?_of_mem hx
 rw[posI_at hs hk]; exact hk
theorem posI_lt {bs:List Int} {x:Int} (hs:bs.Pairwise (· < ·)) (hx:x ∈ bs):posI bs x < bs.length:=(List.getElem?_eq_some_iff.1 (zj7g hs hx)).1
theorem up_get {bs:List Int} (hs:bs.Pairwise (· < ·)) {i j:Nat} {x y:Int} (hi:bs[i]? = some x) (hj:bs[j]? = some y) (h:i < j):x < y:=by
 obtain⟨h1,h2⟩:=List.getElem?_eq_some_iff.1 hi
 obtain⟨k1,k2⟩:=List.getElem?_eq_some_iff.1 hj
 have:=(List.pairwise_iff_getElem.1 hs) i j h1 k1 h
 rw[h2,k2] at this; exact this
theorem posI_below {bs:List Int} (hs:bs.Pairwise (· < ·)) {x y:Int} {k:Nat} (hk:bs[k]? = some y):k < posI bs x ↔ y < x:=by
 induction bs generalizing k with
 | nil=>simp at hk
 | cons a bs ih =>
  obtain⟨h1,h2⟩:=List.pairwise_cons.1 hs
  have e:posI (a :: bs) x=posI bs x+(if a < x then 1 else 0):=by
   unfold posI; rw[List.countP_cons]; simp
  rw[e]
  cases k with
  | zero =>
   simp at hk; subst hk
   split
   ·rename_i h; exact⟨fun _=>h,fun _=>by omega⟩
   ·rename_i h
    have e0:posI bs x=0:=by
     unfold posI; rw[List.countP_eq_zero]
     intro z hz
     have:=h1 z hz
     simp; omega
    rw[e0]; exact⟨fun h=>absurd h (by omega),fun h'=>absurd h' h⟩
  | succ k =>
   have hk':bs[k]? = some y:=by simpa using hk
   have hay:a < y:=h1 y (List.mem_of_getElem? hk')
   have:=ih h2 hk'
   split
   ·rw[← this]; omega
   ·rename_i h
    have h0:posI bs x=0:=by
     unfold posI; rw[List.countP_eq_zero]
     intro z hz
     have:=h1 z hz
     simp; omega
    rw[h0]; constructor
    ·intro h; omega
    ·intro h; omega
def bgL (l:List In):List Int:=if l=[] then [] else dpI (srtI ((0:Int) :: begL l.length 0 l))
theorem zj1u {n i:Nat} {x:In} {t:Int} (h:t ∈ goesL n i x):0≤t∧t < n:=by
 unfold goesL at h
 split at h
 ·simp at h
 ·rw[List.mem_append] at h
  rcases h with h | h
  ·split at h
   ·rename_i h2
    simp only[Bool.and_eq_true,decide_eq_true_eq] at h2
    simp only[List.mem_singleton] at h; subst h; exact h2.2
   ·simp at h
  ·split at h
   ·rename_i h2
    simp only[Bool.and_eq_true,decide_eq_true_eq] at h2
    simp only[List.mem_singleton] at h; subst h; omega
   ·simp at h
theorem begL_mem (n:Nat) (t:Int):∀ (xs:List In) (i:Nat),t ∈ begL n i xs ↔ ∃ k y,xs[k]? = some y∧endsB y=true∧((i+k+1 < n∧t=((i+k+1:Nat):Int))∨t ∈ goesL n (i+k) y)
 | [],i=>by simp[begL]
 | x :: xs,i=>by
  unfold begL
  rw[List.mem_append,begL_mem n t xs (i+1)]
  constructor
  ·rintro (h | ⟨k,y,hk,he,h⟩)
   ·split at h
    ·rename_i he
     refine⟨0,x,rfl,he,?_⟩
     rw[List.mem_append] at h
     rcases h with h | h
     ·split at h
      ·rename_i hlt
       simp only[List.mem_singleton] at h
       exact .inl ⟨by omega,by omega⟩
      ·simp at h
     ·exact .inr (by simpa using h)
    ·simp at h
   ·refine⟨k+1,y,by simpa using hk,he,?_⟩
    have e:i+(k+1)=i+1+k:=by omega
    rw[e]; exact h
  ·rintro ⟨k,y,hk,he,h⟩
   cases k with
   | zero =>
    simp at hk; subst hk
    left
    rw[if_pos he,List.mem_append]
    rcases h with⟨h1,h2⟩ | h
    ·left; rw[if_pos (by omega)]; simp; omega
    ·right; simpa using h
   | succ k =>
    right
    refine⟨k,y,by simpa using hk,he,?_⟩
    have e:i+(k+1)=i+1+k:=by omega
    rw[e] at h; exact h
theorem bgL_mem {l:List In} (hl:l ≠ []) (t:Int):t ∈ bgL l ↔ t=0∨∃ k y,l[k]? = some y∧endsB y=true∧((k+1 < l.length∧t=((k+1:Nat):Int))∨t ∈ goesL l.length k y):=by
 unfold bgL
 rw[if_neg hl,dpI_mem,srtI_mem,List.mem_cons,begL_mem]
 simp only[Nat.zero_add]
theorem bgL_up (l:List In):(bgL l).Pairwise (· < ·):=by
 unfold bgL; split
 ·simp
 ·exact upI_up _
theorem zj10 {l:List In} {t:Int} (h:t ∈ bgL l):0≤t∧t < l.length:=by
 by_cases hl:l=[]
 ·subst hl; simp[bgL] at h
 have hpos:0 < l.length:=List.length_pos_iff.2 hl
 rw[bgL_mem hl] at h
 rcases h with h | ⟨k,y,_,_,⟨h1,h2⟩ | h⟩
 ·subst h; omega
 ·subst h2; omega
 ·exact zj1u h
theorem zj6f (l:List In):(bgL l).length≤3*l.length+1:=by
 unfold bgL; split
 ·simp
 ·have h1:=upI_len ((0:Int) :: begL l.length 0 l)
  have h2:=zj5s l.length 0 l
  unfold upI at h1
  rw[List.length_cons] at h1; omega
theorem bgL_zero {l:List In} (hl:l ≠ []):(bgL l)[0]? = some 0:=by
 have h0:(0:Int) ∈ bgL l:=(bgL_mem hl 0).2 (.inl rfl)
 have hp:=zj7g (bgL_up l) h0
 have:posI (bgL l) 0=0:=by
  unfold posI; rw[List.countP_eq_zero]
  intro y hy
  have:=zj10 hy
  simp; omega
 rw[this] at hp; exact hp
theorem bgL_pos {l:List In} (hl:l ≠ []):0 < (bgL l).length:=(List.getElem?_eq_some_iff.1 (bgL_zero hl)).1
theorem bgL_nil:bgL []=[]:=by simp[bgL]
def toL (n:Nat) (bs:List Int) (i:Nat):Int:=(bs[i+1]?).getD n
def goesA (l:List In) (p:Nat):List Int:=match l[p]? with | some x=>goesL l.length p x | none=>[]
def nxL (l:List In) (bs:List Int) (to:Int):List Int:=upI ((goesA l (to - 1).toNat).map fun t=>(posI bs t:Int))
structure Pa where
 fr:Int
 to:Int
 nx:List Int
deriving DecidableEq
def partL (l:List In) (bs:List Int) (i:Nat):Pa:=⟨bs.getD i 0,toL l.length bs i,nxL l bs (toL l.length bs i)⟩
def partsL (l:List In):List Pa:=(List.range (bgL l).length).map (partL l (bgL l))
theorem zj45 (l:List In):(partsL l).length=(bgL l).length:=by simp[partsL]
theorem zj2u {l:List In} {i:Nat} (h:i < (bgL l).length):(partsL l)[i]? = some (partL l (bgL l) i):=by
 unfold partsL; rw[List.getElem?_map,List.getElem?_range h]; rfl
theorem zj2v {l:List In} {i:Nat} {x:Int} (hx:(bgL l)[i]? = some x):x < toL l.length (bgL l) i∧toL l.length (bgL l) i≤l.length:=by
 unfold toL
 have hr:=zj10 (List.mem_of_getElem? hx)
 cases h:(bgL l)[i+1]? with
 | none=>simp only[Option.getD_none]; omega
 | some y =>
  have h1:=zj10 (List.mem_of_getElem? h)
  have h2:=up_get (bgL_up l) hx h (by omega)
  simp only[Option.getD_some]; omega
theorem goesA_in {l:List In} {i:Nat} {x t:Int} (hx:(bgL l)[i]? = some x) (ht:t ∈ goesA l (toL l.length (bgL l) i - 1).toNat):t ∈ bgL l:=by
 have hr:=zj10 (List.mem_of_getElem? hx)
 have hl:l ≠ []:=by intro e; subst e; simp[bgL] at hx
 obtain⟨h1,h2⟩:=zj2v hx
 unfold goesA at ht
 cases hy:l[(toL l.length (bgL l) i - 1).toNat]? with
 | none=>rw[hy] at ht; simp at ht
 | some y =>
  rw[hy] at ht
  simp only at ht
  cases he:endsB y with
  | true=>exact (bgL_mem hl t).2 (.inr ⟨_,y,hy,he,.inr ht⟩)
  | false =>
   have hg:=zj1u ht
   unfold endsB at he
   simp only[Bool.or_eq_false_iff,Bool.not_eq_false'] at he
   unfold goesL at ht
   rw[he.1,he.2.1,he.2.2] at ht
   simp only[Bool.not_true,Bool.or_self,Bool.false_and,Bool.false_eq_true,if_false,List.nil_append] at ht
   split at ht
   ·rename_i h3
    simp only[Bool.and_eq_true,decide_eq_true_eq] at h3
    simp only[List.mem_singleton] at ht
    cases hn:(bgL l)[i+1]? with
    | none =>
     have e:toL l.length (bgL l) i=l.length:=by unfold toL; rw[hn]; rfl
     rw[e] at h3
     omega
    | some z =>
     have e:toL l.length (bgL l) i=z:=by unfold toL; rw[hn]; rfl
     rw[e] at ht
     have hz:=zj10 (List.mem_of_getElem? hn)
     have:t=z:=by rw[e] at h1; omega
     subst this; exact List.mem_of_getElem? hn
   ·simp at ht
end Go.Isa
namespace Go.Isa
open Go
inductive Rch (nx:List (List Int)) (wo:Int):Nat→Prop where
 | base:0 < nx.length→wo ≠ 0→Rch nx wo 0
 | step {i j:Nat} {s:List Int}:Rch nx wo i→nx[i]? = some s→(j:Int) ∈ s→j < nx.length→(j:Int) ≠ wo→Rch nx wo j
theorem Rch.lt {nx:List (List Int)} {wo:Int} {i:Nat} (h:Rch nx wo i):i < nx.length:=by
 cases h with
 | base h _=>exact h
 | step _ _ _ h _=>exact h
theorem Rch.ne {nx:List (List Int)} {wo:Int} {i:Nat} (h:Rch nx wo i):(i:Int) ≠ wo:=by
 cases h with
 | base _ h=>exact fun e=>h e.symm
 | step _ _ _ _ h=>exact h
theorem Rch.zero {nx:List (List Int)} {i:Nat} (h:Rch nx 0 i):False:=by
 induction h with
 | base _ h=>exact h rfl
 | step _ _ _ _ _ ih=>exact ih
theorem Rch.all {nx:List (List Int)} {wo:Int} {i:Nat} (h:Rch nx wo i):Rch nx (-1) i:=by
 induction h with
 | base h _=>exact .base h (by omega)
 | step _ hs hj hl _ ih=>exact .step ih hs hj hl (by omega)
structure RInv (nx:List (List Int)) (wo:Int) (os:List Bool) (ws:List Int):Prop where
 len:os.length=nx.length
 snd:∀ i:Nat,os[i]? = some true→Rch nx wo i
 cand:∀ w ∈ ws,0≤w∧(w.toNat < nx.length→w ≠ wo→Rch nx wo w.toNat)
 cl:∀ (i:Nat) (s:List Int) (j:Nat),os[i]? = some true→nx[i]? = some s→(j:Int) ∈ s→j < nx.length→(j:Int) ≠ wo→os[j]? = some true∨(j:Int) ∈ ws
 zero:0 < nx.length→wo ≠ 0→os[0]? = some true∨(0:Int) ∈ ws
theorem RInv.start (nx:List (List Int)) (wo:Int):RInv nx wo (List.replicate nx.length false) [0]:=by
 have hno:∀ i:Nat,(List.replicate nx.length false)[i]? ≠ some true:=by
  intro i h
  rw[List.getElem?_replicate] at h
  split at h <;> simp at h
 refine⟨by simp,fun i h=>absurd h (hno i),fun w hw=>?_,fun i s j h=>absurd h (hno i),fun _ _=>.inr (by simp)⟩
 simp only[List.mem_singleton] at hw
 subst hw
 exact⟨Int.le_refl _,fun h hne=>.base h fun e=>hne e.symm⟩
theorem RInv.skip {nx:List (List Int)} {wo:Int} {os:List Bool} {ws:List Int} {n:Int} (h:RInv nx wo os (ws++[n])) (hs:(nx.length:Int)≤n∨n=wo∨os[n.toNat]? = some true):RInv nx wo os ws:=by
 have hn:=(h.cand n (by simp)).1
 refine⟨h.len,h.snd,fun w hw=>h.cand w (by simp[hw]),fun i s j hi hs' hj hl hne=>?_,fun hl hne=>?_⟩
 ·rcases h.cl i s j hi hs' hj hl hne with e | e
  ·exact .inl e
  ·rcases List.mem_append.1 e with e | e
   ·exact .inr e
   ·simp only[List.mem_singleton] at e
    subst e
    rcases hs with k | k | k
    ·omega
    ·exact absurd k hne
    ·left; simpa using k
 ·rcases h.zero hl hne with e | e
  ·exact .inl e
  ·rcases List.mem_append.1 e with e | e
   ·exact .inr e
   ·simp only[List.mem_singleton] at e
    subst e
    rcases hs with k | k | k
    ·omega
    ·exact absurd k.symm hne
    ·left; simpa using k
theorem RInv.mark {nx:List (List Int)} {wo:Int} {os:List Bool} {ws s:List Int} {n:Int} (h:RInv nx wo os (ws++[n])) (hnn:∀ s ∈ nx,∀ j ∈ s,(0:Int)≤j) (hlt:n < nx.length) (hne:n ≠ wo) (hs:nx[n.toNat]? = some s):RInv nx wo (os.set n.toNat true) (ws++s):=by
 obtain⟨hn,hr⟩:=h.cand n (by simp)
 have hrn:Rch nx wo n.toNat:=hr (by omega) hne
 have hin:n.toNat < os.length:=by rw[h.len]; omega
 have get:∀ i,(os.set n.toNat true)[i]? = some true ↔ i=n.toNat∨os[i]? = some true:=by
  intro i
  rw[List.getElem?_set]
  by_cases e:n.toNat=i
  ·subst e; simp[hin]
  ·rw[if_neg e]
   constructor
   ·exact .inr
   ·rintro (k | k)
    ·exact absurd k.symm e
    ·exact k
 refine⟨by rw[List.length_set]; exact h.len,fun i hi=>?_,fun w hw=>?_,fun i s' j hi hs' hj hl hne'=>?_,fun hl hne'=>?_⟩
 ·rcases (get i).1 hi with e | e
  ·subst e; exact hrn
  ·exact h.snd i e
 ·rcases List.mem_append.1 hw with e | e
  ·exact h.cand w (by simp[e])
  ·have h0:=hnn s (List.mem_of_getElem? hs) w e
   exact⟨h0,fun hl hw'=>.step hrn hs (by rw[Int.toNat_of_nonneg h0]; exact e) hl (by rw[Int.toNat_of_nonneg h0]; exact hw')⟩
 ·rcases (get i).1 hi with e | e
  ·subst e
   rw[hs] at hs'; injection hs' with hs'; subst hs'
   exact .inr (by simp[hj])
  ·rcases h.cl i s' j e hs' hj hl hne' with k | k
   ·exact .inl ((get j).2 (.inr k))
   ·rcases List.mem_append.1 k with k | k
    ·exact .inr (by simp[k])
    ·simp only[List.mem_singleton] at k
     exact .inl ((get j).2 (.inl (by omega)))
 ·rcases h.zero hl hne' with k | k
  ·exact .inl ((get 0).2 (.inr k))
  ·rcases List.mem_append.1 k with k | k
   ·exact .inr (by simp[k])
   ·simp only[List.mem_singleton] at k
    exact .inl ((get 0).2 (.inl (by omega)))
theorem RInv.fin {nx:List (List Int)} {wo:Int} {os:List Bool} (h:RInv nx wo os []) {i:Nat} {b:Bool} (hb:os[i]? = some b):b=true ↔ Rch nx wo i:=by
 have all:∀ i,Rch nx wo i→os[i]? = some true:=by
  intro i hi
  induction hi with
  | base h1 h2 =>
   rcases h.zero h1 h2 with k | k
   ·exact k
   ·simp at k
  | step _ hs hj hl hne ih =>
   rcases h.cl _ _ _ ih hs hj hl hne with k | k
   ·exact k
   ·simp at k
 constructor
 ·intro e; subst e; exact h.snd i hb
 ·intro hi
  have:=all i hi
  rw[hb] at this; injection this
end Go.Isa
