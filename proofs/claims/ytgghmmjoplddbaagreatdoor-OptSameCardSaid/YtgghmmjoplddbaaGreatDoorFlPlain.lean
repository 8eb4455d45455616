/- flow: where parts begin, and what they are, in plain words. -/
import Derived.Test.YtgghmmjoplddbaaGreatDoorIsaSpec
set_option linter.unusedSimpArgs false
set_option linter.unusedVariables false
set_option linter.unnecessarySimpa false
namespace Go.Isa
open Go Go.Sx
def isV (l:List Int):List Value:=l.map fun n=>.int .i64 n
theorem zj68 (l:List Int):(isV l).length=l.length:=by simp[isV]
theorem zj69 (l:List Int) (j:Nat) (x:Int) (h:l[j]? = some x):(isV l)[j]? = some (.int .i64 x):=by
 unfold isV; rw[List.getElem?_map,h]; rfl
def dpI:List Int→List Int
 | []=>[]
 | [x]=>[x]
 | x :: y :: r=>if x=y then dpI (y :: r) else x :: dpI (y :: r)
theorem zj7h (y:Int):∀ (l:List Int) (x:Int),dpI (l++[x]++[y])=if x=y then dpI (l++[x]) else dpI (l++[x])++[y]
 | [],x=>by
  by_cases h:x=y
  ·subst h; simp[dpI]
  ·simp[dpI,h]
 | [a],x=>by
  have:=zj7h y [] x
  simp only[List.nil_append,List.cons_append] at *
  by_cases h:a=x
  ·simp only[dpI,h,if_true] at *
   split <;> simp_all
  ·simp only[dpI,h,if_false] at *
   split <;> simp_all
 | a :: c :: l,x=>by
  have:=zj7h y (c :: l) x
  simp only[List.cons_append] at *
  by_cases h:a=c
  ·simp only[dpI,h,if_true] at *
   exact this
  ·simp only[dpI,h,if_false] at *
   rw[this]
   split <;> simp
theorem zj2w {l:List Int} {k:Nat} {x:Int} (h:l[k]? = some x):l.take (k+1)=l.take k++[x]:=by
 rw[List.take_add_one,h]; rfl
theorem zj7i {l:List Int} {k:Nat} {x y:Int} (hx:l[k]? = some x) (hy:l[k+1]? = some y):dpI (l.take (k+2))=if x=y then dpI (l.take (k+1)) else dpI (l.take (k+1))++[y]:=by
 rw[zj2w hy,zj2w hx]
 exact zj7h y _ x
theorem dpI_len:∀ (l:List Int),(dpI l).length≤l.length
 | []=>by simp[dpI]
 | [x]=>by simp[dpI]
 | x :: y :: r=>by
  have:=dpI_len (y :: r)
  simp only[dpI]
  split <;> simp at*<;> omega
def srtI (l:List Int):List Int:=l.mergeSort fun x y=>decide (x≤y)
theorem srtI_up (l:List Int):(srtI l).Pairwise (·≤·):=by
 have:=List.pairwise_mergeSort (le:=fun x y:Int=>decide (x≤y)) (fun a b c h1 h2=>by simp at *; omega) (fun a b=>by simp; omega) l
 exact this.imp fun h=>by simpa using h
theorem srtI_mem (l:List Int) (x:Int):x ∈ srtI l ↔ x ∈ l:=(List.mergeSort_perm l _).mem_iff
def posI (l:List Int) (x:Int):Nat:=l.countP fun y=>decide (y < x)
def brB (op:Int):Bool:=decide (13≤op) && decide (op≤16)
def endsB (x:In):Bool:=!legalB x || (x.op == 1 || brB x.op)
def goesL (n i:Nat) (x:In):List Int:=if !legalB x || x.op == 1 then [] else (if brB x.op && (decide (0≤x.imm) && decide (x.imm < n)) then [x.imm] else [])++(if !(x.op == 13) && decide (i+1 < n) then [((i:Int)+1)] else [])
def begL (n:Nat):Nat→List In→List Int
 | _,[]=>[]
 | i,x :: r=>(if endsB x then (if i+1 < n then [((i:Int)+1)] else [])++goesL n i x else [])++begL n (i+1) r
def begT (l:List In) (i:Nat):List Int:=0 :: begL l.length 0 (l.take i)
def begS (n i:Nat) (x:In):List Int:=if endsB x then (if i+1 < n then [((i:Int)+1)] else [])++goesL n i x else []
theorem begL_snoc (n:Nat):∀ (xs:List In) (j:Nat) (x:In),begL n j (xs++[x])=begL n j xs++begS n (j+xs.length) x
 | [],j,x=>by simp[begL,begS]
 | y :: xs,j,x=>by
  have ih:=begL_snoc n xs (j+1) x
  have e:j+1+xs.length=j+(y :: xs).length:=by rw[List.length_cons]; omega
  rw[e] at ih
  rw[List.cons_append]
  show (if endsB y then _ else _)++begL n (j+1) (xs++[x])=_
  rw[ih,← List.append_assoc]; rfl
theorem begT_step {l:List In} {i:Nat} {x:In} (hx:l[i]? = some x):begT l (i+1)=begT l i++begS l.length i x:=by
 have hi:i < l.length:=(List.getElem?_eq_some_iff.1 hx).1
 have e:l.take (i+1)=l.take i++[x]:=by rw[List.take_add_one,hx]; rfl
 unfold begT
 rw[e,begL_snoc,List.length_take,Nat.min_eq_left (by omega),Nat.zero_add,List.cons_append]
theorem goesL_len (n i:Nat) (x:In):(goesL n i x).length≤2:=by
 unfold goesL
 split
 ·simp
 ·rw[List.length_append]; split <;> split <;> simp
theorem zj5h (n:Nat):∀ (i:Nat) (xs:List In),(begL n i xs).length≤3*xs.length
 | _,[]=>by simp[begL]
 | i,x :: r=>by
  have h1:=zj5h n (i+1) r
  have h2:=goesL_len n i x
  unfold begL
  rw[List.length_append,List.length_cons]
  split
  ·rw[List.length_append]; split <;> simp only[List.length_cons,List.length_nil] <;> omega
  ·simp only[List.length_nil]; omega
theorem dpI_mem (x:Int):∀ (l:List Int),x ∈ dpI l ↔ x ∈ l
 | []=>by simp[dpI]
 | [a]=>by simp[dpI]
 | a :: b :: r=>by
  have ih:=dpI_mem x (b :: r)
  simp only[dpI]
  split
  ·rename_i h
   subst h
   rw[ih]; simp
  ·rw[List.mem_cons,ih,List.mem_cons (a:=x) (b:=a)]
theorem dpI_up:∀ (l:List Int),l.Pairwise (·≤·)→(dpI l).Pairwise (· < ·)
 | [],_=>by simp[dpI]
 | [a],_=>by simp[dpI]
 | a :: b :: r,h=>by
  obtain⟨h1,h2⟩:=List.pairwise_cons.1 h
  have ih:=dpI_up (b :: r) h2
  simp only[dpI]
  split
  ·exact ih
  ·rename_i hne
   refine List.pairwise_cons.2 ⟨fun x hx=>?_,ih⟩
   rw[dpI_mem] at hx
   have h3:=h1 b (by simp)
   have h4:b≤x:=by
    rcases List.mem_cons.1 hx with h | h
    ·subst h; exact Int.le_refl _
    ·exact (List.pairwise_cons.1 h2).1 x h
   omega
def upI (l:List Int):List Int:=dpI (srtI l)
theorem upI_mem (l:List Int) (x:Int):x ∈ upI l ↔ x ∈ l:=by unfold upI; rw[dpI_mem,srtI_mem]
theorem upI_up (l:List Int):(upI l).Pairwise (· < ·):=dpI_up _ (srtI_up l)
theorem srtI_len (l:List Int):(srtI l).length=l.length:=List.length_mergeSort _
theorem upI_len (l:List Int):(upI l).length≤l.length:=by
 have:=dpI_len (srtI l)
 rw[srtI_len] at this; exact this
theorem up_ext:∀ {l m:List Int},l.Pairwise (· < ·)→m.Pairwise (· < ·)→(∀ x,x ∈ l ↔ x ∈ m)→l=m
 | [],[],_,_,_=>rfl
 | [],b :: m,_,_,h=>absurd ((h b).2 (by simp)) (by simp)
 | a :: l,[],_,_,h=>absurd ((h a).1 (by simp)) (by simp)
 | a :: l,b :: m,hl,hm,h=>by
  obtain⟨h1,h2⟩:=List.pairwise_cons.1 hl
  obtain⟨k1,k2⟩:=List.pairwise_cons.1 hm
  have e:a=b:=by
   have p:=(h a).1 (by simp)
   have q:=(h b).2 (by simp)
   rcases List.mem_cons.1 p with p | p
   ·exact p
   ·rcases List.mem_cons.1 q with q | q
    ·exact q.symm
    ·have:=h1 b q; have:=k1 a p; omega
  subst e
  congr 1
  refine up_ext h2 k2 fun x=>⟨fun hx=>?_,fun hx=>?_⟩
  ·rcases List.mem_cons.1 ((h x).1 (by simp[hx])) with e | e
   ·subst e; have:=h1 x hx; omega
   ·exact e
  ·rcases List.mem_cons.1 ((h x).2 (by simp[hx])) with e | e
   ·subst e; have:=k1 x hx; omega
   ·exact e
def upB:List Int→Bool
 | []=>true
 | [_]=>true
 | x :: y :: r=>decide (x < y) && upB (y :: r)
theorem upB_up:∀ (l:List Int),upB l=true→l.Pairwise (· < ·)
 | [],_=>by simp
 | [a],_=>by simp
 | a :: b :: r,h=>by
  simp only[upB,Bool.and_eq_true,decide_eq_true_eq] at h
  have ih:=upB_up (b :: r) h.2
  refine List.pairwise_cons.2 ⟨fun x hx=>?_,ih⟩
  rcases List.mem_cons.1 hx with e | e
  ·subst e; exact h.1
  ·have:=(List.pairwise_cons.1 ih).1 x e; omega
theorem upI_of {l m:List Int} (h1:upB m=true) (h2:(l.all (fun x=>m.contains x) && m.all (fun x=>l.contains x))=true):upI l=m:=by
 simp only[Bool.and_eq_true,List.all_eq_true,List.contains_iff_mem] at h2
 exact up_ext (upI_up l) (upB_up m h1) fun x=>by rw[upI_mem]; exact⟨h2.1 x,h2.2 x⟩
theorem posI_at:∀ {bs:List Int} {k:Nat} {x:Int},bs.Pairwise (· < ·)→bs[k]? = some x→posI bs x=k
 | [],k,x,_,h=>by simp at h
 | a :: bs,0,x,hs,h=>by
  obtain⟨h1,_⟩:=List.pairwise_cons.1 hs
  simp at h; subst h
  unfold posI
  rw[List.countP_eq_zero]
  intro y hy
  rcases List.mem_cons.1 hy with e | e
  ·subst e; simp
  ·have:=h1 y e; simp; omega
 | a :: bs,k+1,x,hs,h=>by
  obtain⟨h1,h2⟩:=List.pairwise_cons.1 hs
  have h':bs[k]? = some x:=by simpa using h
  have ih:=posI_at h2 h'
  have hx:a < x:=h1 x (List.mem_of_getElem? h')
  unfold posI at ih ⊢
  rw[List.countP_cons,ih]; simp[hx]
theorem zj7j {bs:List Int} {x:Int} (hs:bs.Pairwise (· < ·)) (hx:x ∈ bs):bs[posI bs x]? = some x:=by
 obtain⟨k,hk⟩:=List.getElem?_of_mem hx
 rw[posI_at hs hk]; exact hk
theorem posI_lt {bs:List Int} {x:Int} (hs:bs.Pairwise (· < ·)) (hx:x ∈ bs):posI bs x < bs.length:=(List.getElem?_eq_some_iff.1 (zj7j hs hx)).1
theorem up_get {bs:List Int} (hs:bs.Pairwise (· < ·)) {i j:Nat} {x y:Int} (hi:bs[i]? = some x) (hj:bs[j]? = some y) (h:i < j):x < y:=by
 obtain⟨h1,h2⟩:=List.getElem?_eq_some_iff.1 hi
 obtain⟨k1,k2⟩:=List.getElem?_eq_some_iff.1 hj
 have:=(List.pairwise_iff_getElem.1 hs) i j h1 k1 h
 rw[h2,k2] at this; exact this
theorem posI_below {bs:List Int} (hs:bs.Pairwise (· < ·)) {x y:Int} {k:Nat} (hk:bs[k]? = some y):k < posI bs x ↔ y < x:=by
 induction bs generalizing k with
 | nil=>simp at hk
 | cons a bs ih =>
  obtain⟨h1,h2⟩:=List.pairwise_cons.1 hs
  have e:posI (a :: bs) x=posI bs x+(if a < x then 1 else 0):=by
   unfold posI; rw[List.countP_cons]; simp
  rw[e]
  cases k with
  | zero =>
   simp at hk; subst hk
   split
   ·rename_i h; exact⟨fun _=>h,fun _=>by omega⟩
   ·rename_i h
    have e0:posI bs x=0:=by
     unfold posI; rw[List.countP_eq_zero]
     intro z hz
     have:=h1 z hz
     simp; omega
    rw[e0]; exact⟨fun h=>absurd h (by omega),fun h'=>absurd h' h⟩
  | succ k =>
   have hk':bs[k]? = some y:=by simpa using hk
   have hay:a < y:=h1 y (List.mem_of_getElem? hk')
   have:=ih h2 hk'
   split
   ·rw[← this]; omega
   ·rename_i h
    have h0:posI bs x=0:=by
     unfold posI; rw[List.countP_eq_zero]
     intro z hz
     have:=h1 z hz
     simp; omega
    rw[h0]; constructor
    ·intro h; omega
    ·intro h; omega
def bgL (l:List In):List Int:=if l=[] then [] else dpI (srtI ((0:Int) :: begL l.length 0 l))
theorem goesL_range {n i:Nat} {x:In} {t:Int} (h:t ∈ goesL n i x):0≤t∧t < n:=by
 unfold goesL at h
 split at h
 ·simp at h
 ·rw[List.mem_append] at h
  rcases h with h | h
  ·split at h
   ·rename_i h2
    simp only[Bool.and_eq_true,decide_eq_true_eq] at h2
    simp only[List.mem_singleton] at h; subst h; exact h2.2
   ·simp at h
  ·split at h
   ·rename_i h2
    simp only[Bool.and_eq_true,decide_eq_true_eq] at h2
    simp only[List.mem_singleton] at h; subst h; omega
   ·simp at h
theorem begL_mem (n:Nat) (t:Int):∀ (xs:List In) (i:Nat),t ∈ begL n i xs ↔ ∃ k y,xs[k]? = some y∧endsB y=true∧((i+k+1 < n∧t=((i+k+1:Nat):Int))∨t ∈ goesL n (i+k) y)
 | [],i=>by simp[begL]
 | x :: xs,i=>by
  unfold begL
  rw[List.mem_append,begL_mem n t xs (i+1)]
  constructor
  ·rintro (h | ⟨k,y,hk,he,h⟩)
   ·split at h
    ·rename_i he
     refine⟨0,x,rfl,he,?_⟩
     rw[List.mem_append] at h
     rcases h with h | h
     ·split at h
      ·rename_i hlt
       simp only[List.mem_singleton] at h
       exact .inl ⟨by omega,by omega⟩
      ·simp at h
     ·exact .inr (by simpa using h)
    ·simp at h
   ·refine⟨k+1,y,by simpa using hk,he,?_⟩
    have e:i+(k+1)=i+1+k:=by omega
    rw[e]; exact h
  ·rintro ⟨k,y,hk,he,h⟩
   cases k with
   | zero =>
    simp at hk; subst hk
    left
    rw[if_pos he,List.mem_append]
    rcases h with⟨h1,h2⟩ | h
    ·left; rw[if_pos (by omega)]; simp; omega
    ·right; simpa using h
   | succ k =>
    right
    refine⟨k,y,by simpa using hk,he,?_⟩
    have e:i+(k+1)=i+1+k:=by omega
    rw[e] at h; exact h
theorem bgL_mem {l:List In} (hl:l ≠ []) (t:Int):t ∈ bgL l ↔ t=0∨∃ k y,l[k]? = some y∧endsB y=true∧((k+1 < l.length∧t=((k+1:Nat):Int))∨t ∈ goesL l.length k y):=by
 unfold bgL
 rw[if_neg hl,dpI_mem,srtI_mem,List.mem_cons,begL_mem]
 simp only[Nat.zero_add]
theorem bgL_up (l:List In):(bgL l).Pairwise (· < ·):=by
 unfold bgL; split
 ·simp
 ·exact upI_up _
theorem zj2x {l:List In} {t:Int} (h:t ∈ bgL l):0≤t∧t < l.length:=by
 by_cases hl:l=[]
 ·subst hl; simp[bgL] at h
 have hpos:0 < l.length:=List.length_pos_iff.2 hl
 rw[bgL_mem hl] at h
 rcases h with h | ⟨k,y,_,_,⟨h1,h2⟩ | h⟩
 ·subst h; omega
 ·subst h2; omega
 ·exact goesL_range h
theorem bgL_len (l:List In):(bgL l).length≤3*l.length+1:=by
 unfold bgL; split
 ·simp
 ·have h1:=upI_len ((0:Int) :: begL l.length 0 l)
  have h2:=zj5h l.length 0 l
  unfold upI at h1
  rw[List.length_cons] at h1; omega
theorem bgL_zero {l:List In} (hl:l ≠ []):(bgL l)[0]? = some 0:=by
 have h0:(0:Int) ∈ bgL l:=(bgL_mem hl 0).2 (.inl rfl)
 have hp:=zj7j (bgL_up l) h0
 have:posI (bgL l) 0=0:=by
  unfold posI; rw[List.countP_eq_zero]
  intro y hy
  have:=zj2x hy
  simp; omega
 rw[this] at hp; exact hp
theorem bgL_pos {l:List In} (hl:l ≠ []):0 < (bgL l).length:=(List.getElem?_eq_some_iff.1 (bgL_zero hl)).1
theorem bgL_nil:bgL []=[]:=by simp[bgL]
def toL (n:Nat) (bs:List Int) (i:Nat):Int:=(bs[i+1]?).getD n
def goesA (l:List In) (p:Nat):List Int:=match l[p]? with | some x=>goesL l.length p x | none=>[]
def nxL (l:List In) (bs:List Int) (to:Int):List Int:=upI ((goesA l (to - 1).toNat).map fun t=>(posI bs t:Int))
structure Pa where
 fr:Int
 to:Int
 nx:List Int
deriving DecidableEq
def partL (l:List In) (bs:List Int) (i:Nat):Pa:=⟨bs.getD i 0,toL l.length bs i,nxL l bs (toL l.length bs i)⟩
def partsL (l:List In):List Pa:=(List.range (bgL l).length).map (partL l (bgL l))
theorem zj6a (l:List In):(partsL l).length=(bgL l).length:=by simp[partsL]
theorem zj6b {l:List In} {i:Nat} (h:i < (bgL l).length):(partsL l)[i]? = some (partL l (bgL l) i):=by
 unfold partsL; rw[List.getElem?_map,List.getElem?_range h]; rfl
theorem toL_range {l:List In} {i:Nat} {x:Int} (hx:(bgL l)[i]? = some x):x < toL l.length (bgL l) i∧toL l.length (bgL l) i≤l.length:=by
 unfold toL
 have hr:=zj2x (List.mem_of_getElem? hx)
 cases h:(bgL l)[i+1]? with
 | none=>simp only[Option.getD_none]; omega
 | some y =>
  have h1:=zj2x (List.mem_of_getElem? h)
  have h2:=up_get (bgL_up l) hx h (by omega)
  simp only[Option.getD_some]; omega
end Go.Isa
namespace Go.Isa
open Go
inductive Rch (nx:List (List Int)) (wo:Int):Nat→Prop where
 | base:0 < nx.length→wo ≠ 0→Rch nx wo 0
 | step {i j:Nat} {s:List Int}:Rch nx wo i→nx[i]? = some s→(j:Int) ∈ s→j < nx.length→(j:Int) ≠ wo→Rch nx wo j
structure RInv (nx:List (List Int)) (wo:Int) (os:List Bool) (ws:List Int):Prop where
 len:os.length=nx.length
 snd:∀ i:Nat,os[i]? = some true→Rch nx wo i
 cand:∀ w ∈ ws,0≤w∧(w.toNat < nx.length→w ≠ wo→Rch nx wo w.toNat)
 cl:∀ (i:Nat) (s:List Int) (j:Nat),os[i]? = some true→nx[i]? = some s→(j:Int) ∈ s→j < nx.length→(j:Int) ≠ wo→os[j]? = some true∨(j:Int) ∈ ws
 zero:0 < nx.length→wo ≠ 0→os[0]? = some true∨(0:Int) ∈ ws
theorem do_mid {y:In} {r:List Int} {p:Nat} (he:endsB y=false) (hp:p < 1024):(doB y r p).kind ≠ 0∧(doB y r p).kind ≠ 7∧(doB y r p).next=(p:Int)+1:=by
 unfold endsB at he
 simp only[Bool.or_eq_false_iff,Bool.not_eq_false'] at he
 obtain⟨hL,h1,hb⟩:=he
 have hop:isOp y.op=true:=by
  unfold legalB at hL
  simp only[Bool.and_eq_true] at hL
  exact hL.1.1.1
 unfold doB
 rw[if_pos ⟨hL,by omega,by omega⟩]
 rcases zj0g hop with h | h | h | h | h | h | h | h | h | h | h | h | h | h | h | h | h | h <;> simp[h,brB] at h1 hb <;> simp[doE,h]
theorem do_goes {n:Nat} {y:In} {r:List Int} {p:Nat} (hp:p < 1024) (hpn:p < n) (h0:(doB y r p).kind ≠ 0) (h7:(doB y r p).kind ≠ 7) (hn:(doB y r p).next < n):(doB y r p).next ∈ goesL n p y:=by
 unfold doB at *
 split at h0
 ·rename_i hc
  rw[if_pos hc] at h7 hn ⊢
  have hop:isOp y.op=true:=by
   have hL:=hc.1
   unfold legalB at hL
   simp only[Bool.and_eq_true] at hL
   exact hL.1.1.1
  unfold goesL
  rw[hc.1]
  rcases zj0g hop with h | h | h | h | h | h | h | h | h | h | h | h | h | h | h | h | h | h <;> simp only[doE,h,goE] at h0 h7 hn ⊢ <;> simp[brB] at h0 h7 hn ⊢
  all_goals first | omega | skip
  all_goals (repeat' split at hn) <;> (repeat' split) <;> simp_all [Ef.zero] <;> omega
 ·exact absurd rfl h0
def St0:List (Option Int):=List.replicate 8 none
def rgO (s:List (Option Int)):List Int:=s.map fun o=>o.getD 0
def knO (s:List (Option Int)) (n:Int):Bool:=(s.getD n.toNat none).isSome
def smallU (v:Int):Bool:=decide (v≤2147483647) || decide (18446744071562067968≤v)
def sgnU (v:Int):Int:=if v≤9223372036854775807 then v else v - 18446744073709551616
def brG (x:In):Bool:=legalB x && (decide (0≤x.imm) && decide (x.imm≤1024)) && (decide (14≤x.op) && decide (x.op≤16))
def foldK (x:In) (s:List (Option Int)):Bool:=if x.op=2 then true else if x.op=3 then knO s x.b else knO s x.b && knO s x.c
def foldI (x:In) (s:List (Option Int)) (p:Nat):In × List (Option Int) :=
 if !legalB x then (x,s)
 else if brG x then (if knO s x.a && knO s x.b then (⟨13,0,0,0,(doB x (rgO s) p).next⟩,s) else (x,s))
 else if x.op=11 then (x,s.set x.a.toNat none)
 else if x.op < 2∨10 < x.op then (x,s)
 else if foldK x s then (if x.op ≠ 2∧smallU (doB x (rgO s) p).value=true then ⟨2,x.a,0,0,sgnU (doB x (rgO s) p).value⟩ else x,s.set x.a.toNat (some (doB x (rgO s) p).value))
 else (x,s.set x.a.toNat none)
def stA (l:List In) (bs:List Int):Nat→List (Option Int)
 | 0=>St0
 | i+1=>if bs.contains (((i+1:Nat)):Int) then St0 else match l[i]? with | some x=>(foldI x (stA l bs i) i).2 | none=>St0
def foldA (l:List In) (i:Nat) (x:In):In:=(foldI x (stA l (bgL l) i) i).1
def foldL (l:List In):List In:=l.mapIdx (foldA l)
theorem zj1j (l:List In):(foldL l).length=l.length:=by simp[foldL]
theorem foldL_get {l:List In} {i:Nat} {x:In} (h:l[i]? = some x):(foldL l)[i]? = some (foldA l i x):=by
 unfold foldL; rw[List.getElem?_mapIdx,h]; rfl
theorem stA_beg {l:List In} {bs:List Int} {i:Nat} (h:(i:Int) ∈ bs):stA l bs i=St0:=by
 cases i with
 | zero=>rfl
 | succ i =>
  unfold stA
  rw[if_pos (by simpa using h)]
theorem stA_mid {l:List In} {bs:List Int} {i:Nat} {x:In} (hx:l[i]? = some x) (h:(((i+1:Nat)):Int) ∉ bs):stA l bs (i+1)=(foldI x (stA l bs i) i).2:=by
 conv=>lhs; unfold stA
 rw[if_neg (by simpa using h),hx]
theorem part_mid {l:List In} {n:Nat} {x:Int} {p:Nat} (hx:(bgL l)[n]? = some x) (h1:x < p) (h2:(p:Int) < toL l.length (bgL l) n):(p:Int) ∉ bgL l:=by
 intro hm
 have hg:=zj7j (bgL_up l) hm
 have hn:n < posI (bgL l) (p:Int):=(posI_below (bgL_up l) hx).2 h1
 unfold toL at h2
 cases hk:(bgL l)[n+1]? with
 | none =>
  have:=posI_lt (bgL_up l) hm
  have h3:(bgL l).length≤n+1:=List.getElem?_eq_none_iff.1 hk
  omega
 | some z =>
  rw[hk] at h2
  simp only[Option.getD_some] at h2
  rcases Nat.lt_or_ge (n+1) (posI (bgL l) (p:Int)) with h | h
  ·have:=up_get (bgL_up l) hk hg h; omega
  ·have e:posI (bgL l) (p:Int)=n+1:=by omega
   rw[e,hk] at hg
   injection hg with hg
   omega
end Go.Isa
namespace Go.Proofs.YtgghmmjoplddbaaGreatDoor
open Go Go.Sx Go.Isa
def leftN (gone:Nat→Bool):Nat→Nat
 | 0=>0
 | n+1=>leftN gone n+(if gone n=true then 0 else 1)
def adjI (gone:Nat→Bool) (len:Nat) (x:In):In:=if goK x ≠ 0∧x.imm < len then { x with imm:=leftN gone x.imm.toNat } else x
def dropTo (gone:Nat→Bool) (l:List In):Nat→List In
 | 0=>[]
 | i+1=>dropTo gone l i++(match l[i]? with | some x=>(if gone i=true then [] else [adjI gone l.length x]) | none=>[])
def dropP (gone:Nat→Bool) (l:List In):List In:=dropTo gone l l.length
theorem zj1v (gone:Nat→Bool):∀ n,leftN gone n≤n
 | 0=>Nat.le_refl _
 | n+1=>by have:=zj1v gone n; simp only[leftN]; split <;> omega
theorem zj2y (gone:Nat→Bool) (l:List In):∀ i,i≤l.length→(dropTo gone l i).length=leftN gone i
 | 0,_=>rfl
 | i+1,h=>by
  have:=zj2y gone l i (by omega)
  have hx:l[i]? = some (l[i]'(by omega)):=List.getElem?_eq_getElem (by omega)
  simp only[dropTo,leftN,hx,List.length_append,this]
  split <;> simp
theorem leftN_all {gone:Nat→Bool}:∀ n,leftN gone n=n→∀ k,k < n→gone k=false
 | 0,_,k,hk=>absurd hk (by omega)
 | n+1,h,k,hk=>by
  have h1:=zj1v gone n
  simp only[leftN] at h
  split at h
  ·omega
  ·rename_i hn
   by_cases e:k=n
   ·subst e; simpa using hn
   ·exact leftN_all n (by omega) k (by omega)
theorem zj44 {gone:Nat→Bool}:∀ n,(∀ k,k < n→gone k=false)→leftN gone n=n
 | 0,_=>rfl
 | n+1,h=>by
  simp only[leftN,zj44 n (fun k hk=>h k (by omega)),h n (by omega)]
  simp
theorem zj6c {gone:Nat→Bool} {n:Nat} (h:gone n=false):leftN gone (n+1)=leftN gone n+1:=by simp[leftN,h]
theorem zj3m (gone:Nat→Bool) (l:List In):(dropP gone l).length=leftN gone l.length:=zj2y gone l _ (Nat.le_refl _)
theorem dropP_le (gone:Nat→Bool) (l:List In):(dropP gone l).length≤l.length:=by rw[zj3m]; exact zj1v _ _
theorem adjI_same {gone:Nat→Bool} {l:List In} (h:∀ k,k < l.length→gone k=false) (x:In):adjI gone l.length x=x:=by
 unfold adjI
 split
 ·rename_i hx
  have h0:=zj1r hx.1
  rw[zj44 _ fun k hk=>h k (by omega)]
  cases x
  simp only[In.mk.injEq,true_and]
  simp only at h0
  omega
 ·rfl
theorem zj4p {gone:Nat→Bool} {l:List In} (h:∀ k,k < l.length→gone k=false):∀ i,i≤l.length→dropTo gone l i=l.take i
 | 0,_=>rfl
 | i+1,hi=>by
  have hx:l[i]? = some (l[i]'(by omega)):=List.getElem?_eq_getElem (by omega)
  simp only[dropTo,zj4p h i (by omega),hx,h i (by omega),adjI_same h]
  rw[List.take_add_one,hx]
  simp
theorem zj22 {gone:Nat→Bool} {l:List In} (h:(dropP gone l).length=l.length):dropP gone l=l:=by
 rw[zj3m] at h
 unfold dropP
 rw[zj4p (fun k hk=>leftN_all _ h k hk) _ (Nat.le_refl _),List.take_length]
def skipB (l:List In) (i:Nat):Bool:=match l[i]? with | some x=>decide (goK x=1∧x.imm=(i:Int)+1) | none=>false
def skip1 (l:List In):List In:=dropP (skipB l) l
def skipN:Nat→List In→List In
 | 0,l=>l
 | n+1,l=>skipN n (skip1 l)
def skipL (l:List In):List In:=skipN l.length l
theorem zj23 (l:List In):(skip1 l).length≤l.length:=dropP_le _ _
theorem zj1o {l:List In} (h:(skip1 l).length=l.length):∀ n,skipN n l=l
 | 0=>rfl
 | n+1=>by
  have e:skip1 l=l:=zj22 h
  simp only[skipN,e,zj1o h n]
theorem skipN_any:∀ (k n:Nat) (l:List In),l.length≤k→l.length≤n→skipN k l=skipN n l
 | 0,n,l,hk,_=>by
  have h:(skip1 l).length=l.length:=by have:=zj23 l; omega
  rw[zj1o h,zj1o h]
 | k+1,0,l,_,hn=>by
  have h:(skip1 l).length=l.length:=by have:=zj23 l; omega
  rw[zj1o h,zj1o h]
 | k+1,n+1,l,hk,hn=>by
  by_cases h:(skip1 l).length=l.length
  ·rw[zj1o h,zj1o h]
  ·have:=zj23 l
   simp only[skipN]
   exact skipN_any k n _ (by omega) (by omega)
theorem skipL_of {n:Nat} {l:List In} (h:l.length≤n):skipN n l=skipL l:=skipN_any _ _ _ h (Nat.le_refl _)
theorem skipL_fix {l:List In} (h:(skip1 l).length=l.length):skipL l=l:=zj1o h _
theorem skipL_step (l:List In):skipL (skip1 l)=skipL l:=by
 rw[← skipL_of (n:=l.length) (zj23 l),← skipL_of (n:=l.length+1) (l:=l) (by omega)]
 rfl
theorem zj5i:∀ (n:Nat) (l:List In),(skipN n l).length≤l.length
 | 0,_=>Nat.le_refl _
 | n+1,l=>Nat.le_trans (zj5i n _) (zj23 l)
theorem zj3n (l:List In):(skipL l).length≤l.length:=zj5i _ _
def Chn (l:List In):List Int→Int→Prop
 | [],_=>True
 | q :: led,p=>(∃ x,l[q.toNat]? = some x∧goK x=1∧x.imm=p)∧Chn l led q
theorem ledOk1 {cs:List In} {p:Int} (h:0≤p):LedOk cs [] p:=⟨List.nodup_nil,by simp,by simp,h⟩
theorem chn_from {l:List In}:∀ {led:List Int} {p:Int},LedOk l led p→Chn l led p→∀ r,r ∈ p :: led→∃ led',(∀ q ∈ led',q ∈ led)∧LedOk l led' p∧r ∈ p :: led'∧thr l l.length [] r=thr l l.length led' p
 | led,p,h,hc,r,hr=>by
  rcases List.mem_cons.1 hr with e | hr
  ·subst e
   exact⟨[],by simp,ledOk1 h.p0,by simp,rfl⟩
  ·match led,h,hc,hr with
   | q :: led2,h,⟨⟨x,hx,hg,him⟩,hc2⟩,hr =>
    have hnd:=List.nodup_cons.1 h.nd
    have hq:=h.rg q (by simp)
    have h2:LedOk l led2 q:=⟨hnd.2,fun s hs=>h.rg s (List.mem_cons_of_mem _ hs),hnd.1,hq.1⟩
    obtain⟨led',hsub,hok,hm,he⟩:=chn_from h2 hc2 r hr
    have hno:p ∉ q :: led':=fun hp=>h.no (by
     rcases List.mem_cons.1 hp with e | hp
     ·subst e; simp
     ·exact List.mem_cons_of_mem _ (hsub p hp))
    have hst:=thr_all hok hx ⟨hg,by rw[him]; exact hno⟩
    rw[him] at hst
    refine⟨q :: led',fun s hs=>?_,hok.step hq.2 hno h.p0,?_,he.trans hst⟩
    ·rcases List.mem_cons.1 hs with e | hs
     ·subst e; simp
     ·exact List.mem_cons_of_mem _ (hsub s hs)
    ·exact List.mem_cons_of_mem _ hm
def EndAt (l:List In) (q:Int):Prop:=∀ x,l[q.toNat]? = some x→goK x=1→thr l l.length [] x.imm=q
theorem thr_endAt {l:List In}:∀ (n:Nat) (led:List Int) (p:Int),LedOk l led p→Chn l led p→l.length≤led.length+n→EndAt l (thr l n led p)
 | 0,led,p,h,_,hn=>by
  intro x hx _
  exfalso
  have hx:l[p.toNat]? = some x:=hx
  have hp:=at_of h.p0 hx
  have:=zj2a l.length (p :: led) (List.nodup_cons.2 ⟨h.no,h.nd⟩) (fun r hr=>by
   rcases List.mem_cons.1 hr with rfl | hr
   ·exact⟨h.p0,hp⟩
   ·exact h.rg r hr)
  simp at this; omega
 | n+1,led,p,h,hc,hn=>by
  cases hx:l[p.toNat]? with
  | none=>rw[thr_end hx]; intro x hx'; rw[hx] at hx'; cases hx'
  | some x =>
   by_cases hg:goK x=1∧x.imm ∉ p :: led
   ·rw[thr_on hx hg]
    have hp:=at_of h.p0 hx
    exact thr_endAt n _ _ (h.step hp hg.2 (zj1r (by rw[hg.1]; decide)).1) ⟨⟨x,hx,hg.1,rfl⟩,hc⟩ (by simp; omega)
   ·rw[zj5e hx hg]
    intro y hy hgy
    rw[hx] at hy; injection hy with hy; subst hy
    have hin:x.imm ∈ p :: led:=Classical.byContradiction fun hh=>hg ⟨hgy,hh⟩
    obtain⟨led',hsub,hok,hm,he⟩:=chn_from h hc _ hin
    rw[he,zj5e hx fun hh=>hh.2 hm]
theorem legal_imm (x:In) (q:Int):legalB { x with imm:=q }=legalB x:=rfl
theorem goK_imm2 (x:In) {q:Int} (h0:0≤q) (h1:q≤1024) (hx:goK x ≠ 0):goK { x with imm:=q }=goK x:=by
 have hi:=zj1r hx
 unfold goK
 rw[legal_imm]
 simp only[h0,h1,hi,and_true]
theorem goK_thrI (l:List In) (x:In):goK (thrI l x)=goK x:=by
 unfold thrI
 split
 ·rfl
 ·rename_i h
  have hi:=zj1r h
  have:=thr_rg l l.length [] x.imm hi.1 hi.2
  exact goK_imm2 x this.1 this.2 h
theorem thrI_op (l:List In) (x:In):(thrI l x).op=x.op:=by unfold thrI; split <;> rfl
theorem zj7k (l:List In):zj0a (zj0a l)=zj0a l:=by
 have hlen:=zj1m l
 unfold zj0a at *
 rw[List.map_map]
 refine List.map_congr_left fun x _=>?_
 show thrI (l.map (thrI l)) (thrI l x)=thrI l x
 by_cases hg:goK x=0
 ·have e:thrI l x=x:=by unfold thrI; rw[if_pos hg]
  rw[e]
  unfold thrI
  rw[if_pos hg]
 ·have hi:=zj1r hg
  have hq:=thr_rg l l.length [] x.imm hi.1 hi.2
  have hend:=thr_endAt (l:=l) l.length [] x.imm (ledOk1 hi.1) trivial (Nat.le_add_left _ _)
  have e:thrI l x={ x with imm:=thr l l.length [] x.imm }:=by unfold thrI; rw[if_neg hg]
  have hgt:=goK_thrI l x
  generalize thr l l.length [] x.imm=q at *
  rw[e] at hgt ⊢
  have:thr (l.map (thrI l)) (l.map (thrI l)).length [] q=q:=by
   cases hx:l[q.toNat]? with
   | none=>exact thr_end (by rw[List.getElem?_map,hx]; rfl)
   | some y =>
    have hy:(l.map (thrI l))[q.toNat]? = some (thrI l y):=by rw[List.getElem?_map,hx]; rfl
    refine zj5e hy fun hh=>?_
    have h1:goK y=1:=by rw[← goK_thrI l y]; exact hh.1
    have h2:=hend y hx h1
    have h3:(thrI l y).imm=q:=by
     unfold thrI
     rw[if_neg (by rw[h1]; decide)]
     exact h2
    exact hh.2 (by rw[h3]; simp)
  have e2:∀ (m:List In) (z:In),goK z ≠ 0→thrI m z={ z with imm:=thr m m.length [] z.imm }:=fun m z hz=>by unfold thrI; rw[if_neg hz]
  rw[e2 _ _ (by rw[hgt]; exact hg)]
  simp only[this]
open Go.Lint
open Classical in
noncomputable def neverB (l:List In) (i:Nat):Bool:=decide (¬ Go.Lint.Reach l ((i:Int),false)∧¬ Go.Lint.Reach l ((i:Int),true))
noncomputable def trimL (l:List In):List In:=dropP (neverB l) l
theorem zj45 {l:List In} {i:Nat}:neverB l i=false ↔ ∃ b,Go.Lint.Reach l ((i:Int),b):=by
 unfold neverB
 rw[decide_eq_false_iff_not]
 constructor
 ·intro h
  by_cases h1:Go.Lint.Reach l ((i:Int),false)
  ·exact⟨_,h1⟩
  ·exact⟨true,Classical.byContradiction fun h2=>h ⟨h1,h2⟩⟩
 ·rintro ⟨b,hb⟩ ⟨h1,h2⟩
  cases b
  ·exact h1 hb
  ·exact h2 hb
theorem zj5j (l:List In):(trimL l).length≤l.length:=dropP_le _ _
theorem dropTo_at {gone:Nat→Bool} {l:List In}:∀ (i n:Nat) (x:In),i < n→n≤l.length→l[i]? = some x→gone i=false→(dropTo gone l n)[leftN gone i]? = some (adjI gone l.length x)
 | i,0,_,h,_,_,_=>by omega
 | i,n+1,x,h,hn,hx,hg=>by
  have hlen:=zj2y gone l n (by omega)
  simp only[dropTo]
  by_cases e:i=n
  ·subst e
   rw[hx,List.getElem?_append_right (by rw[hlen]; exact Nat.le_refl _),hlen,Nat.sub_self]
   simp only[hg]
   rfl
  ·have hm:=dropTo_at i n x (by omega) (by omega) hx hg
   rw[List.getElem?_append_left (List.getElem?_eq_some_iff.1 hm).1,hm]
theorem dropP_at {gone:Nat→Bool} {l:List In} {i:Nat} {x:In} (hx:l[i]? = some x) (hg:gone i=false):(dropP gone l)[leftN gone i]? = some (adjI gone l.length x) :=
 dropTo_at i l.length x (List.getElem?_eq_some_iff.1 hx).1 (Nat.le_refl _) hx hg
theorem adjI_op (gone:Nat→Bool) (n:Nat) (x:In):(adjI gone n x).op=x.op:=by unfold adjI; split <;> rfl
theorem adjI_legal (gone:Nat→Bool) (n:Nat) (x:In):legalB (adjI gone n x)=legalB x:=by unfold adjI; split <;> rfl
end Go.Proofs.YtgghmmjoplddbaaGreatDoor
namespace Go.Proofs.YtgghmmjoplddbaaGreatDoor
open Go Go.Sx Go.Isa
noncomputable def optR (l:List In):List In:=trimL (skipL (zj0a (foldL l)))
noncomputable def optN:Nat→List In→List In
 | 0,l=>l
 | n+1,l=>if optR l=l then l else optN n (optR l)
def nfI (x:In):Bool:=legalB x && ((decide (14≤x.op) && decide (x.op≤16)) || (decide (3≤x.op) && decide (x.op≤10)))
def nfL (l:List In):Nat:=l.countP nfI
theorem foldI_nf (x:In) (s:List (Option Int)) (p:Nat):(foldI x s p).1=x∨(nfI x=true∧nfI (foldI x s p).1=false):=by
 unfold foldI
 split
 ·exact .inl rfl
 ·rename_i hl
  have hl:legalB x=true:=by simpa using hl
  split
  ·rename_i hb
   split
   ·right
    unfold brG at hb
    simp only[Bool.and_eq_true,decide_eq_true_eq] at hb
    refine⟨?_,?_⟩
    ·unfold nfI; rw[hl]; simp[hb.2]
    ·simp[nfI]
   ·exact .inl rfl
  ·split
   ·exact .inl rfl
   ·rename_i h11
    split
    ·exact .inl rfl
    ·rename_i hop
     split
     ·simp only
      split
      ·rename_i h2
       right
       refine⟨?_,?_⟩
       ·unfold nfI; rw[hl]
        have:3≤x.op:=by omega
        have:x.op≤10:=by omega
        simp[*]
       ·simp[nfI]
      ·exact .inl rfl
     ·exact .inl rfl
theorem zj3c {α:Type} (p:α→Bool) (f:Nat→α→α) (h:∀ i x,f i x=x∨(p x=true∧p (f i x)=false)):∀ (l:List α),(l.mapIdx f).countP p≤l.countP p∧((l.mapIdx f).countP p=l.countP p→l.mapIdx f=l)
 | []=>by simp
 | x :: l=>by
  rw[List.mapIdx_cons]
  obtain⟨h1,h2⟩:=zj3c p (fun i=>f (i+1)) (fun i x=>h (i+1) x) l
  rw[List.countP_cons,List.countP_cons]
  rcases h 0 x with e | ⟨e1,e2⟩
  ·rw[e]
   refine⟨by omega,fun k=>?_⟩
   rw[h2 (by omega)]
  ·rw[e1,e2]
   simp only[Bool.false_eq_true,if_false,if_true]
   exact⟨by omega,fun k=>by omega⟩
theorem zj7l (l:List In):nfL (foldL l)≤nfL l∧(nfL (foldL l)=nfL l→foldL l=l) :=
 zj3c nfI (foldA l) (fun i x=>foldI_nf x _ i) l
theorem zj6d (l:List In):nfL (zj0a l)=nfL l:=by
 unfold nfL zj0a
 rw[List.countP_map]
 congr 1
 funext x
 show nfI (thrI l x)=nfI x
 have h1:=thrI_op l x
 have h2:legalB (thrI l x)=legalB x:=by unfold thrI; split <;> rfl
 unfold nfI; rw[h1,h2]
theorem adjI_nf (gone:Nat→Bool) (n:Nat) (x:In):nfI (adjI gone n x)=nfI x:=by
 unfold nfI; rw[adjI_op,adjI_legal]
theorem dropTo_nf (gone:Nat→Bool) (l:List In):∀ i,i≤l.length→nfL (dropTo gone l i)≤nfL (l.take i)
 | 0,_=>by simp[dropTo,nfL]
 | i+1,h=>by
  have ih:=dropTo_nf gone l i (by omega)
  have hx:l[i]? = some l[i]:=List.getElem?_eq_getElem (by omega)
  have et:l.take (i+1)=l.take i++[l[i]]:=by rw[List.take_add_one,hx]; rfl
  rw[et]
  unfold nfL at *
  unfold dropTo
  rw[hx]
  simp only[List.countP_append]
  split
  ·simp only[List.countP_nil]; omega
  ·simp only[List.countP_cons,List.countP_nil,adjI_nf]
   omega
theorem dropP_nf (gone:Nat→Bool) (l:List In):nfL (dropP gone l)≤nfL l:=by
 have:=dropTo_nf gone l l.length (Nat.le_refl _)
 rw[List.take_length] at this; exact this
theorem skipN_nf:∀ (n:Nat) (l:List In),nfL (skipN n l)≤nfL l
 | 0,l=>Nat.le_refl _
 | n+1,l=>Nat.le_trans (skipN_nf n (skip1 l)) (dropP_nf _ _)
theorem skipL_nf (l:List In):nfL (skipL l)≤nfL l:=skipN_nf _ _
theorem trimL_nf (l:List In):nfL (trimL l)≤nfL l:=dropP_nf _ _
theorem zj6e:∀ (n:Nat) {l:List In},(skipN n l).length=l.length→skipN n l=l
 | 0,l,_=>rfl
 | n+1,l,h=>by
  have h1:(skipN (n+1) l).length=(skipN n (skip1 l)).length:=rfl
  have h2:=zj5i n (skip1 l)
  have h3:=zj23 l
  have e:skip1 l=l:=zj22 (by show (skip1 l).length=_; omega)
  show skipN n (skip1 l)=l
  rw[e] at h1 ⊢
  exact zj6e n (by omega)
theorem skipL_same {l:List In} (h:(skipL l).length=l.length):skipL l=l:=zj6e _ h
theorem trimL_same {l:List In} (h:(trimL l).length=l.length):trimL l=l:=zj22 h
theorem zj7m (l:List In):(optR l).length≤l.length:=by
 unfold optR
 have h1:=zj5j (skipL (zj0a (foldL l)))
 have h2:=zj3n (zj0a (foldL l))
 rw[zj1m,zj1j] at h2
 omega
theorem optR_nf (l:List In):nfL (optR l)≤nfL l:=by
 unfold optR
 have h1:=trimL_nf (skipL (zj0a (foldL l)))
 have h2:=skipL_nf (zj0a (foldL l))
 rw[zj6d] at h2
 have h3:=(zj7l l).1
 omega
theorem optR_long {l:List In} (h:(optR l).length=l.length):optR l=zj0a (foldL l):=by
 unfold optR at h ⊢
 have h1:=zj5j (skipL (zj0a (foldL l)))
 have h2:=zj3n (zj0a (foldL l))
 have h4:(zj0a (foldL l)).length=l.length:=by rw[zj1m,zj1j]
 rw[h4] at h2
 have e:skipL (zj0a (foldL l))=zj0a (foldL l):=skipL_same (by omega)
 rw[e] at h h1 ⊢
 exact trimL_same (by omega)
def phiL (l:List In):Nat:=2*l.length+nfL l+(if zj0a l=l then 0 else 1)
theorem zj46 {l:List In} (h:optR l ≠ l):phiL (optR l) < phiL l:=by
 have h1:=zj7m l
 have h2:=optR_nf l
 unfold phiL
 by_cases hl:(optR l).length=l.length
 ·have e:=optR_long hl
  have ht:zj0a (optR l)=optR l:=by rw[e,zj7k]
  rw[if_pos ht]
  by_cases hn:nfL (optR l)=nfL l
  ·have hf:foldL l=l:=(zj7l l).2 (by
    have:=(zj7l l).1
    rw[e,zj6d] at hn
    exact hn)
   rw[hf] at e
   have:zj0a l ≠ l:=by rw[← e]; exact h
   rw[if_neg this]
   omega
  ·omega
 ·split <;> split <;> omega
theorem optN_any:∀ (n m:Nat) (l:List In),phiL l≤n→phiL l≤m→optN n l=optN m l
 | 0,0,_,_,_=>rfl
 | 0,m+1,l,h,_=>by
  show l=optN (m+1) l
  unfold optN
  rw[if_pos]
  refine Classical.byContradiction fun hc=>?_
  have:=zj46 hc; omega
 | n+1,0,l,_,h=>by
  show optN (n+1) l=l
  unfold optN
  rw[if_pos]
  refine Classical.byContradiction fun hc=>?_
  have:=zj46 hc; omega
 | n+1,m+1,l,h1,h2=>by
  unfold optN
  split
  ·rfl
  ·rename_i hc
   have:=zj46 hc
   exact optN_any n m (optR l) (by omega) (by omega)
noncomputable def optL (l:List In):List In:=optN (phiL l) l
theorem optL_of {n:Nat} {l:List In} (h:phiL l≤n):optN n l=optL l:=optN_any _ _ _ h (Nat.le_refl _)
theorem zj7n {l:List In} (h:optR l=l):optL l=l:=by
 rw[← optL_of (n:=phiL l+1) (by omega)]
 unfold optN; rw[if_pos h]
theorem zj3o {l:List In} (h:optR l ≠ l):optL l=optL (optR l):=by
 rw[← optL_of (n:=phiL l+1) (by omega)]
 conv=>lhs; unfold optN
 rw[if_neg h]
 exact optL_of (by have:=zj46 h; omega)
theorem optN_len:∀ (n:Nat) (l:List In),(optN n l).length≤l.length
 | 0,l=>Nat.le_refl _
 | n+1,l=>by
  unfold optN
  split
  ·exact Nat.le_refl _
  ·exact Nat.le_trans (optN_len n _) (zj7m l)
theorem optL_len (l:List In):(optL l).length≤l.length:=optN_len _ _
open Go.Lint
structure Mc where
 ws:List Int
 rs:List Int
 pc:Int
 bl:Int
 inn:Bool
 fw:List Int
 fr:List Int
structure Oc where
 ws:List Int
 rs:List Int
 bl:Int
 er:Int
def endM (m:Mc) (e:Int):Oc:=if m.inn=true∧e ≠ 0 then ⟨m.fw,m.fr,m.bl,e⟩ else ⟨m.ws,m.rs,m.bl,e⟩
inductive Rs where
 | done (o:Oc)
 | stop (o:Oc)
 | on (m:Mc)
def efM (e:Ef) (m:Mc):Rs :=
 if e.kind=1 then .on { m with rs:=m.rs.set e.reg.toNat e.value,pc:=e.next }
 else if e.kind=2 then .on { m with pc:=e.next }
 else if e.kind=3 then (if e.addr < m.ws.length then .on { m with rs:=m.rs.set e.reg.toNat (m.ws.getD e.addr.toNat 0),pc:=e.next } else .stop (endM m 2))
 else if e.kind=4 then (if e.addr < m.ws.length then .on { m with ws:=m.ws.set e.addr.toNat e.value,pc:=e.next } else .stop (endM m 2))
 else if e.kind=5 then (if m.inn=true then .stop (endM m 2) else .on { m with pc:=e.next,inn:=true,fw:=m.ws,fr:=m.rs })
 else if e.kind=6 then (if m.inn=true then .on { m with pc:=e.next,inn:=false,bl:=m.bl+1 } else .stop (endM m 2))
 else if e.kind=7 then (if m.inn=true then .stop (endM m 2) else .stop (endM m 0))
 else .stop (endM m 2)
def stepM (l:List In) (m:Mc):Rs :=
 match l[m.pc.toNat]? with
 | none=>if m.inn=true then .stop (endM m 2) else .done (endM m 0)
 | some x=>efM (doB x m.rs m.pc) m
def runM (l:List In):Nat→Mc→Oc × Nat
 | 0,m=>match stepM l m with
  | .done o=>(o,0)
  | _=>(endM m 1,0)
 | n+1,m=>match stepM l m with
  | .done o=>(o,n+1)
  | .stop o=>(o,n)
  | .on m1=>runM l n m1
structure SimR (l l':List In) (R:Mc→Mc→Prop):Prop where
 done:∀ m m' o,R m m'→stepM l m=.done o→stepM l' m'=.done o
 stop:∀ m m' o,R m m'→stepM l m=.stop o→stepM l' m'=.stop o
 on:∀ m m' m1,R m m'→stepM l m=.on m1→R m1 m'∨∃ m2,stepM l' m'=.on m2∧R m1 m2
theorem endM_fuel (m:Mc):(endM m 1).er=1:=by unfold endM; split <;> rfl
theorem zj47 {l:List In} {m:Mc} {o:Oc} (h:stepM l m=.done o):∀ n,runM l n m=(o,n)
 | 0=>by rw[runM,h]
 | n+1=>by rw[runM,h]
theorem zj7o {l:List In} {m:Mc} {o:Oc} (h:stepM l m=.stop o) (n:Nat):runM l (n+1) m=(o,n):=by rw[runM,h]
theorem run_on {l:List In} {m m1:Mc} (h:stepM l m=.on m1) (n:Nat):runM l (n+1) m=runM l n m1:=by rw[runM,h]
theorem run_stop0 {l:List In} {m:Mc} {o:Oc} (h:stepM l m=.stop o):(runM l 0 m).1.er=1:=by rw[runM,h]; exact endM_fuel m
theorem run_on0 {l:List In} {m m1:Mc} (h:stepM l m=.on m1):(runM l 0 m).1.er=1:=by rw[runM,h]; exact endM_fuel m
theorem sim_run {l l':List In} {R:Mc→Mc→Prop} (h:SimR l l' R):∀ (n n':Nat) (m m':Mc),R m m'→n≤n'→(runM l n m).1.er ≠ 1→(runM l' n' m').1=(runM l n m).1∧(runM l n m).2≤(runM l' n' m').2:=by
 intro n
 induction n with
 | zero =>
  intro n' m m' hr hn hf
  cases hs:stepM l m with
  | done o =>
   rw[zj47 hs,zj47 (h.done m m' o hr hs)]
   exact⟨rfl,hn⟩
  | stop o=>exact absurd (run_stop0 hs) hf
  | on m1=>exact absurd (run_on0 hs) hf
 | succ n ih =>
  intro n' m m' hr hn hf
  cases hs:stepM l m with
  | done o =>
   rw[zj47 hs,zj47 (h.done m m' o hr hs)]
   exact⟨rfl,hn⟩
  | stop o =>
   have h1:=h.stop m m' o hr hs
   cases n' with
   | zero=>omega
   | succ n' =>
    rw[zj7o hs,zj7o h1]
    exact⟨rfl,by show n≤n'; omega⟩
  | on m1 =>
   rw[run_on hs] at hf ⊢
   rcases h.on m m' m1 hr hs with h1 | ⟨m2,h1,h2⟩
   ·exact ih n' m1 m' h1 (by omega) hf
   ·cases n' with
    | zero=>omega
    | succ n' =>
     rw[run_on h1]
     exact ih n' m1 m2 h2 (by omega) hf
structure McOk (m:Mc):Prop where
 r8:m.rs.length=8
 u:∀ v ∈ m.rs,isU v
 w:∀ v ∈ m.ws,isU v
 p0:0≤m.pc
def Beg (m:Mc):Prop:=McOk m∧m.pc=0∧m.inn=false
def Bet (l l':List In):Prop:=∀ n m,Beg m→(runM l n m).1.er ≠ 1→(runM l' n m).1=(runM l n m).1∧(runM l n m).2≤(runM l' n m).2
theorem Bet.refl (l:List In):Bet l l:=fun _ _ _ _=>⟨rfl,Nat.le_refl _⟩
theorem Bet.trans {a b c:List In} (h:Bet a b) (k:Bet b c):Bet a c:=by
 intro n m hm hf
 have h1:=h n m hm hf
 have h2:=k n m hm (by rw[h1.1]; exact hf)
 exact⟨h2.1.trans h1.1,Nat.le_trans h1.2 h2.2⟩
theorem doB_next0 (x:In) (r:List Int) (p:Int) (h0:0≤p):0≤(doB x r p).next:=by
 unfold doB
 by_cases hl:legalB x=true∧0≤p∧p < 1024
 ·rw[if_pos hl]
  have h4:∀ (i:Int) (b:Bool),0≤(goE i p b).next:=fun i b=>by
   unfold goE; cases b
   ·simp; omega
   ·by_cases k:i < 0∨1024 < i
    ·simp[k,Ef.zero]
    ·simp[k]; omega
  rcases zj0g (zj21 hl.1) with h | h | h | h | h | h | h | h | h | h | h | h | h | h | h | h | h | h <;> (simp only[doE,h]; simp)
  all_goals first | exact h4 _ _ | omega
 ·rw[if_neg hl]; simp[Ef.zero]
theorem efM_ok {x:In} {m m1:Mc} (hm:McOk m) (h:efM (doB x m.rs m.pc) m=.on m1):McOk m1:=by
 have hv:=doB_value (x:=x) (p:=m.pc) hm.u
 have hn:=doB_next0 x m.rs m.pc hm.p0
 have set_u:∀ (l:List Int) (i:Nat) (v:Int),(∀ v ∈ l,isU v)→isU v→∀ w ∈ l.set i v,isU w:=by
  intro l i v h1 h2 w hw
  rcases List.mem_or_eq_of_mem_set hw with h | h
  ·exact h1 w h
  ·subst h; exact h2
 have hg:∀ i,isU (m.ws.getD i 0):=fun i=>by
  rw[List.getD_eq_getElem?_getD]
  cases h:m.ws[i]? with
  | none=>simp[isU]
  | some v=>exact hm.w v (List.mem_of_getElem? h)
 unfold efM at h
 repeat' split at h
 all_goals first
  | cases h; done
  | (injection h with h; subst h
     first
       | exact⟨by simp[hm.r8],set_u _ _ _ hm.u hv,hm.w,hn⟩
       | exact⟨hm.r8,hm.u,hm.w,hn⟩
       | exact⟨by simp[hm.r8],set_u _ _ _ hm.u (hg _),hm.w,hn⟩
       | exact⟨hm.r8,hm.u,set_u _ _ _ hm.w hv,hn⟩)
theorem zj1e {l:List In} {m:Mc} {x:In} (h:l[m.pc.toNat]? = some x):stepM l m=efM (doB x m.rs m.pc) m:=by unfold stepM; rw[h]
theorem zj39 {l:List In} {m m1:Mc} (hm:McOk m) (h:stepM l m=.on m1):McOk m1:=by
 unfold stepM at h
 split at h
 ·split at h <;> cases h
 ·exact efM_ok hm h
theorem zj7p (e:Ef) (m:Mc) (o:Oc):efM e m ≠ .done o:=by
 unfold efM
 repeat' split
 all_goals simp
def atP (m:Mc) (q:Int):Mc:={ m with pc:=q }
def Rs.mv:Rs→Int→Rs
 | .on m,q=>.on (atP m q)
 | r,_=>r
theorem mv_ite (c:Prop) [Decidable c] (a b:Rs) (q:Int):(if c then a else b).mv q=if c then a.mv q else b.mv q:=by split <;> rfl
theorem efM_at (e:Ef) (m:Mc) (q q':Int):efM { e with next:=q' } (atP m q)=(efM e m).mv q':=by
 unfold efM
 simp only[mv_ite]
 rfl
theorem zj5k {e:Ef} {m m1:Mc} (h:efM e m=.on m1):m1.pc=e.next:=by
 unfold efM at h
 repeat' split at h
 all_goals first
  | cases h; done
  | (injection h with h; subst h; rfl)
theorem efM_inn {e:Ef} {m m1:Mc} (h:efM e m=.on m1):m1.inn=(if e.kind=5 then true else if e.kind=6 then false else m.inn)∧endN e m.inn=0:=by
 unfold efM at h
 unfold endN
 repeat' split at h
 all_goals first
  | cases h; done
  | (injection h with h; subst h; simp_all)
theorem jump_do {x:In} {r:List Int} {p:Int} (h:goK x=1) (h0:0≤p) (h1:p < 1024):doB x r p=⟨2,x.imm,0,0,0⟩:=by
 unfold goK at h
 split at h
 ·rename_i hk
  split at h
  ·rename_i h13
   unfold doB
   rw[if_pos ⟨hk.1,h0,h1⟩]
   have:¬ (x.imm < 0∨1024 < x.imm):=by omega
   simp[doE,h13,goE,this]
  ·split at h <;> omega
 ·omega
inductive Chn1 (l:List In):Int→Int→Prop
 | refl (p:Int):Chn1 l p p
 | step (p q:Int) (x:In):l[p.toNat]? = some x→goK x=1→Chn1 l x.imm q→Chn1 l p q
theorem thr_chn {l:List In}:∀ (n:Nat) (led:List Int) (p:Int),Chn1 l p (thr l n led p)
 | 0,_,p=>.refl p
 | n+1,led,p=>by
  unfold thr
  cases hx:l[p.toNat]? with
  | none=>exact .refl p
  | some x =>
   by_cases hg:goK x=1∧x.imm ∉ p :: led
   ·simp only[if_pos hg]; exact .step _ _ x hx hg.1 (thr_chn n _ _)
   ·simp only[if_neg hg]; exact .refl p
theorem doE_go {x:In} (h:13≤x.op∧x.op≤16) (a b c:Int):∃ t,∀ (i pc:Int),doE { x with imm:=i } a b c pc=goE i pc t:=by
 have e:x.op=13∨x.op=14∨x.op=15∨x.op=16:=by omega
 rcases e with h | h | h | h
 ·exact⟨true,fun i pc=>by simp[doE,h]⟩
 ·exact⟨a == b,fun i pc=>by simp[doE,h]⟩
 ·exact⟨a != b,fun i pc=>by simp[doE,h]⟩
 ·exact⟨decide (a < b),fun i pc=>by simp[doE,h]⟩
def efMv (e:Ef) (n:Int):Ef:={ e with next:=n }
theorem efMv_ite (c:Prop) [Decidable c] (a b:Ef) (n:Int):efMv (if c then a else b) n=if c then efMv a n else efMv b n:=by split <;> rfl
theorem doE_mov {x:In} (h:¬ (13≤x.op∧x.op≤16)) (a b c p p':Int):doE x a b c p'={ doE x a b c p with next:=p'+1 }∧(doE x a b c p).next=p+1:=by
 show doE x a b c p'=efMv (doE x a b c p) (p'+1)∧_
 unfold doE
 rw[if_neg (by omega:¬ x.op=13),if_neg (by omega:¬ x.op=14),if_neg (by omega:¬ x.op=15),if_neg (by omega:¬ x.op=16)]
 rw[if_neg (by omega:¬ x.op=13),if_neg (by omega:¬ x.op=14),if_neg (by omega:¬ x.op=15),if_neg (by omega:¬ x.op=16)]
 constructor
 ·simp only[efMv_ite]; rfl
 ·simp only[apply_ite Ef.next,ite_self]
theorem doB_go {x:In} {q:Int} (hg:goK x ≠ 0) (h0:0≤q) (h1:q≤1024) (r:List Int) (p p':Int) (hp:0≤p∧p < 1024) (hp':0≤p'∧p' < 1024) :
  ∃ nx,doB { x with imm:=q } r p'={ doB x r p with next:=nx }∧((nx=q∧(doB x r p).next=x.imm)∨(nx=p'+1∧(doB x r p).next=p+1)):=by
 obtain⟨hl,hop,hi⟩:legalB x=true∧(13≤x.op∧x.op≤16)∧0≤x.imm∧x.imm≤1024:=by
  unfold goK at hg
  split at hg
  ·rename_i hk
   split at hg
   ·exact⟨hk.1,by omega,hk.2⟩
   ·split at hg
    ·exact⟨hk.1,by omega,hk.2⟩
    ·exact absurd rfl hg
  ·exact absurd rfl hg
 have e2:legalB { x with imm:=q }=true:=hl
 unfold doB
 rw[if_pos ⟨e2,hp'⟩,if_pos ⟨hl,hp⟩]
 have n1:¬ (x.imm < 0∨1024 < x.imm):=by omega
 have n2:¬ (q < 0∨1024 < q):=by omega
 obtain⟨b,hb⟩:=doE_go hop (rg r x.a) (rg r x.b) (rg r x.c)
 have h1:=hb q p'
 have h2:doE x (rg r x.a) (rg r x.b) (rg r x.c) p=goE x.imm p b:=hb x.imm p
 rw[h2]
 show ∃ nx,doE { x with imm:=q } (rg r x.a) (rg r x.b) (rg r x.c) p'=_∧_
 rw[h1]
 unfold goE
 cases b
 ·exact⟨p'+1,by simp,.inr ⟨rfl,by simp⟩⟩
 ·rw[if_pos rfl,if_pos rfl,if_neg n1,if_neg n2]
  exact⟨q,rfl,.inl ⟨rfl,rfl⟩⟩
theorem doB_mov {x:In} (hg:goK x=0) (r:List Int) (p p':Int) (hp:0≤p∧p < 1024) (hp':0≤p'∧p' < 1024) :
  ∃ nx,doB x r p'={ doB x r p with next:=nx }∧((doB x r p).kind=0∨(nx=p'+1∧(doB x r p).next=p+1)):=by
 unfold doB
 cases hl:legalB x with
 | false =>
  rw[if_neg (by simp),if_neg (by simp)]
  exact⟨0,rfl,.inl rfl⟩
 | true =>
  rw[if_pos ⟨rfl,hp'⟩,if_pos ⟨rfl,hp⟩]
  by_cases h:13≤x.op∧x.op≤16
  ·have hi:x.imm < 0∨1024 < x.imm:=by
    refine Classical.byContradiction fun hc=>?_
    unfold goK at hg
    rw[if_pos ⟨hl,by omega⟩] at hg
    split at hg
    ·omega
    ·rw[if_pos (by omega)] at hg; omega
   obtain⟨b,hb⟩:=doE_go h (rg r x.a) (rg r x.b) (rg r x.c)
   have h1:doE x (rg r x.a) (rg r x.b) (rg r x.c) p'=goE x.imm p' b:=hb x.imm p'
   have h2:doE x (rg r x.a) (rg r x.b) (rg r x.c) p=goE x.imm p b:=hb x.imm p
   rw[h1,h2]
   unfold goE
   cases b
   ·exact⟨p'+1,by simp,.inr ⟨rfl,by simp⟩⟩
   ·rw[if_pos rfl,if_pos rfl,if_pos hi]
    exact⟨0,rfl,.inl rfl⟩
  ·have:=doE_mov h (rg r x.a) (rg r x.b) (rg r x.c) p p'
   exact⟨p'+1,this.1,.inr ⟨rfl,this.2⟩⟩
theorem zj6f {e:Ef} {m m1:Mc} {q nx:Int} (h:efM e m=.on m1):efM { e with next:=nx } (atP m q)=.on (atP m1 nx):=by
 rw[efM_at,h]; rfl
theorem zj6g {e:Ef} {m:Mc} {o:Oc} {q nx:Int} (h:efM e m=.stop o):efM { e with next:=nx } (atP m q)=.stop o:=by
 rw[efM_at,h]; rfl
theorem zj24 {e:Ef} {m:Mc} (h:e.kind=0):∃ o,efM e m=.stop o:=by
 unfold efM
 rw[h]
 exact⟨endM m 2,by simp⟩
theorem zj6h {l:List In} (hl:l.length≤1024):Bet l (zj0a l):=by
 intro n m hm
 have hat:∀ p:Int,(zj0a l)[p.toNat]? = (l[p.toNat]?).map (thrI l):=fun p=>by unfold zj0a; rw[List.getElem?_map]
 have pl:∀ {p:Int} {x:In},l[p.toNat]? = some x→0≤p→p < 1024:=fun h h0=>by
  have:=(List.getElem?_eq_some_iff.1 h).1; omega
 have hin:∀ x r (p:Int),0≤p→p < 1024→∃ nx,doB (thrI l x) r p={ doB x r p with next:=nx }∧((doB x r p).kind=0∨Chn1 l (doB x r p).next nx):=by
  intro x r p h0 h1
  unfold thrI
  split
  ·exact⟨_,rfl,.inr (.refl _)⟩
  ·rename_i hg
   have hi:=zj1r hg
   have hq:=thr_rg l l.length [] x.imm hi.1 hi.2
   obtain⟨nx,h2,h3⟩:=doB_go hg hq.1 hq.2 r p p ⟨h0,h1⟩ ⟨h0,h1⟩
   refine⟨nx,h2,.inr ?_⟩
   rcases h3 with⟨rfl,h3⟩ | ⟨rfl,h3⟩
   ·rw[h3]; exact thr_chn _ _ _
   ·rw[h3]; exact .refl _
 refine sim_run (R:=fun m m'=>McOk m∧0≤m'.pc∧∃ q,m'=atP m q∧Chn1 l m.pc q) ?_ n n m m ⟨hm.1,by rw[hm.2.1]; decide,m.pc,rfl,.refl _⟩ (Nat.le_refl _)
 have wait:∀ (m:Mc) (x:In),McOk m→l[m.pc.toNat]? = some x→goK x=1→stepM l m=.on (atP m x.imm):=by
  intro m x hm hx hg
  rw[zj1e hx,jump_do hg hm.p0 (pl hx hm.p0)]
  rfl
 refine⟨?_,?_,?_⟩
 ·rintro m m' o ⟨hm,h0,q,rfl,hc⟩ hs
  cases hc with
  | refl =>
   unfold stepM at hs ⊢
   rw[hat]
   show (match (l[m.pc.toNat]?).map (thrI l) with | none=>_ | some x=>_)=_
   cases hx:l[m.pc.toNat]? with
   | none=>rw[hx] at hs; exact hs
   | some x=>rw[hx] at hs; exact absurd hs (zj7p _ _ _)
  | step _ _ x hx hg _=>rw[wait m x hm hx hg] at hs; cases hs
 ·rintro m m' o ⟨hm,h0,q,rfl,hc⟩ hs
  cases hc with
  | refl =>
   unfold stepM at hs ⊢
   rw[hat]
   show (match (l[m.pc.toNat]?).map (thrI l) with | none=>_ | some x=>_)=_
   cases hx:l[m.pc.toNat]? with
   | none=>rw[hx] at hs; exact hs
   | some x =>
    rw[hx] at hs
    obtain⟨nx,h2,_⟩:=hin x m.rs m.pc hm.p0 (pl hx hm.p0)
    show efM (doB (thrI l x) m.rs m.pc) (atP m m.pc)=_
    rw[h2]
    exact zj6g hs
  | step _ _ x hx hg _=>rw[wait m x hm hx hg] at hs; cases hs
 ·rintro m m' m1 ⟨hm,h0,q,rfl,hc⟩ hs
  have hm1:=zj39 hm hs
  cases hc with
  | refl =>
   right
   cases hx:l[m.pc.toNat]? with
   | none =>
    unfold stepM at hs
    rw[hx] at hs
    simp only at hs
    split at hs <;> cases hs
   | some x =>
    rw[zj1e hx] at hs
    obtain⟨nx,h2,h3⟩:=hin x m.rs m.pc hm.p0 (pl hx hm.p0)
    refine⟨atP m1 nx,?_,hm1,?_,nx,rfl,?_⟩
    ·have:(zj0a l)[(atP m m.pc).pc.toNat]? = some (thrI l x):=by
      show (zj0a l)[m.pc.toNat]? = _
      rw[hat,hx]; rfl
     rw[zj1e this]
     show efM (doB (thrI l x) m.rs m.pc) (atP m m.pc)=_
     rw[h2]
     exact zj6f hs
    ·have:=doB_next0 (thrI l x) m.rs m.pc hm.p0
     rw[h2] at this
     exact this
    ·rw[zj5k hs]
     rcases h3 with h3 | h3
     ·obtain⟨o,ho⟩:=zj24 (m:=m) h3
      rw[ho] at hs; cases hs
     ·exact h3
  | step _ _ x hx hg hc =>
   left
   rw[wait m x hm hx hg] at hs
   injection hs with hs
   subst hs
   exact⟨hm1,h0,q,rfl,hc⟩
theorem leftN_out {gone:Nat→Bool} {n:Nat} (h:gone n=true):leftN gone (n+1)=leftN gone n:=by simp[leftN,h]
def DrP (l:List In) (gone:Nat→Bool) (p q:Int):Prop:=(p < l.length∧q=(leftN gone p.toNat:Nat))∨((l.length:Int)≤p∧((leftN gone l.length:Nat):Int)≤q)
theorem bet_drop {l:List In} (hl:l.length≤1024) (gone:Nat→Bool) (G:Mc→Prop)
  (hG0:∀ m,Beg m→G m) (hG:∀ m m1,McOk m→G m→stepM l m=.on m1→G m1)
  (hgone:∀ (m:Mc) x,McOk m→G m→l[m.pc.toNat]? = some x→gone m.pc.toNat=true→goK x=1∧x.imm=m.pc+1):Bet l (dropP gone l):=by
 intro n m hm
 have hlen:=zj3m gone l
 have pl:∀ {p:Int} {x:In},l[p.toNat]? = some x→0≤p→p < l.length:=fun h h0=>by
  have:=(List.getElem?_eq_some_iff.1 h).1; omega
 have dr1:∀ p:Int,0≤p→p < l.length→gone p.toNat=false→DrP l gone (p+1) ((leftN gone p.toNat:Nat)+1):=by
  intro p h0 h1 hg
  have e:(p+1).toNat=p.toNat+1:=by omega
  have e2:=zj6c hg
  by_cases h:p+1 < l.length
  ·left; refine⟨h,?_⟩; rw[e,e2]; omega
  ·right
   refine⟨by omega,?_⟩
   have:l.length=p.toNat+1:=by omega
   rw[this,e2]; omega
 have beg:DrP l gone 0 0:=by
  by_cases h:(0:Int) < l.length
  ·exact .inl ⟨h,rfl⟩
  ·right
   have:l.length=0:=by omega
   refine⟨by omega,?_⟩
   rw[this]; exact Int.le_refl _
 have none_of:∀ p:Int,(l.length:Int)≤p→l[p.toNat]? = none:=fun p h=>List.getElem?_eq_none (by omega)
 have none_of':∀ q:Int,((leftN gone l.length:Nat):Int)≤q→(dropP gone l)[q.toNat]? = none:=fun q h=>List.getElem?_eq_none (by rw[hlen]; omega)
 have inn:∀ (x:In) r (p q:Int),0≤p→p < l.length→gone p.toNat=false→q=(leftN gone p.toNat:Nat)→∃ nx,doB (adjI gone l.length x) r q={ doB x r p with next:=nx }∧((doB x r p).kind=0∨DrP l gone (doB x r p).next nx):=by
  intro x r p q h0 h1 hg hq
  have hle:=zj1v gone p.toNat
  have hq1:0≤q∧q < 1024:=by omega
  have hp1:0≤p∧p < 1024:=by omega
  have d1:=dr1 p h0 h1 hg
  rw[← hq] at d1
  by_cases hk:goK x=0
  ·have e:adjI gone l.length x=x:=by unfold adjI; rw[if_neg (by simp[hk])]
   rw[e]
   obtain⟨nx,h2,h3⟩:=doB_mov hk r p q hp1 hq1
   refine⟨nx,h2,?_⟩
   rcases h3 with h3 | ⟨h3,h4⟩
   ·exact .inl h3
   ·right; rw[h3,h4]; exact d1
  ·have hi:=zj1r hk
   by_cases hlt:x.imm < l.length
   ·have e:adjI gone l.length x={ x with imm:=(leftN gone x.imm.toNat:Nat) }:=by unfold adjI; rw[if_pos ⟨hk,hlt⟩]
    rw[e]
    have:=zj1v gone x.imm.toNat
    obtain⟨nx,h2,h3⟩:=doB_go hk (q:=(leftN gone x.imm.toNat:Nat)) (by omega) (by omega) r p q hp1 hq1
    refine⟨nx,h2,.inr ?_⟩
    rcases h3 with⟨h3,h4⟩ | ⟨h3,h4⟩
    ·rw[h3,h4]; exact .inl ⟨hlt,rfl⟩
    ·rw[h3,h4]; exact d1
   ·have e:adjI gone l.length x={ x with imm:=x.imm }:=by unfold adjI; rw[if_neg (fun k=>hlt k.2)]
    rw[e]
    obtain⟨nx,h2,h3⟩:=doB_go hk hi.1 hi.2 r p q hp1 hq1
    refine⟨nx,h2,.inr ?_⟩
    rcases h3 with⟨h3,h4⟩ | ⟨h3,h4⟩
    ·rw[h3,h4]
     refine .inr ⟨by omega,?_⟩
     have:=zj1v gone l.length
     omega
    ·rw[h3,h4]; exact d1
 have wait:∀ (m:Mc) (x:In),McOk m→G m→l[m.pc.toNat]? = some x→gone m.pc.toNat=true→stepM l m=.on (atP m (m.pc+1)):=by
  intro m x hm hg hx hgo
  obtain⟨h1,h2⟩:=hgone m x hm hg hx hgo
  rw[zj1e hx,jump_do h1 hm.p0 (by have:=pl hx hm.p0; omega),h2]
  rfl
 have stay:∀ (p q:Int),0≤p→p < l.length→gone p.toNat=true→DrP l gone p q→DrP l gone (p+1) q:=by
  intro p q h0 h1 hg hd
  have hq:q=(leftN gone p.toNat:Nat):=by
   rcases hd with hd | hd
   ·exact hd.2
   ·omega
  have e:(p+1).toNat=p.toNat+1:=by omega
  have e2:=leftN_out hg
  by_cases h:p+1 < l.length
  ·left; refine⟨h,?_⟩; rw[e,e2]; exact hq
  ·right
   refine⟨by omega,?_⟩
   have:l.length=p.toNat+1:=by omega
   rw[this,e2]; omega
 have at_:∀ (p q:Int) (x:In),0≤p→l[p.toNat]? = some x→gone p.toNat=false→DrP l gone p q→q=(leftN gone p.toNat:Nat)∧(dropP gone l)[q.toNat]? = some (adjI gone l.length x):=by
  intro p q x h0 hx hg hd
  have h1:=pl hx h0
  have hq:q=(leftN gone p.toNat:Nat):=by
   rcases hd with hd | hd
   ·exact hd.2
   ·omega
  refine⟨hq,?_⟩
  rw[hq]
  exact dropP_at hx hg
 have outq:∀ (p q:Int),0≤p→l[p.toNat]? = none→DrP l gone p q→(dropP gone l)[q.toNat]? = none:=by
  intro p q h0 hx hd
  have:=List.getElem?_eq_none_iff.1 hx
  rcases hd with hd | hd
  ·omega
  ·exact none_of' q hd.2
 refine sim_run (R:=fun m m'=>McOk m∧G m∧∃ q,m'=atP m q∧DrP l gone m.pc q) ?_ n n m m ⟨hm.1,hG0 m hm,m.pc,rfl,by rw[hm.2.1]; exact beg⟩ (Nat.le_refl _)
 refine⟨?_,?_,?_⟩
 ·rintro m m' o ⟨hm,hg,q,rfl,hd⟩ hs
  cases hx:l[m.pc.toNat]? with
  | none =>
   unfold stepM at hs ⊢
   rw[hx] at hs
   show (match (dropP gone l)[q.toNat]? with | none=>_ | some x=>_)=_
   rw[outq m.pc q hm.p0 hx hd]
   exact hs
  | some x=>rw[zj1e hx] at hs; exact absurd hs (zj7p _ _ _)
 ·rintro m m' o ⟨hm,hg,q,rfl,hd⟩ hs
  cases hx:l[m.pc.toNat]? with
  | none =>
   unfold stepM at hs ⊢
   rw[hx] at hs
   show (match (dropP gone l)[q.toNat]? with | none=>_ | some x=>_)=_
   rw[outq m.pc q hm.p0 hx hd]
   exact hs
  | some x =>
   cases hgo:gone m.pc.toNat with
   | true=>rw[wait m x hm hg hx hgo] at hs; cases hs
   | false =>
    rw[zj1e hx] at hs
    obtain⟨hq,hy⟩:=at_ m.pc q x hm.p0 hx hgo hd
    obtain⟨nx,h2,_⟩:=inn x m.rs m.pc q hm.p0 (pl hx hm.p0) hgo hq
    rw[zj1e (m:=atP m q) hy]
    show efM (doB (adjI gone l.length x) m.rs q) (atP m q)=_
    rw[h2]
    exact zj6g hs
 ·rintro m m' m1 ⟨hm,hg,q,rfl,hd⟩ hs
  have hm1:=zj39 hm hs
  have hg1:=hG m m1 hm hg hs
  cases hx:l[m.pc.toNat]? with
  | none =>
   unfold stepM at hs
   rw[hx] at hs
   simp only at hs
   split at hs <;> cases hs
  | some x =>
   cases hgo:gone m.pc.toNat with
   | true =>
    left
    rw[wait m x hm hg hx hgo] at hs
    injection hs with hs
    subst hs
    exact⟨hm1,hg1,q,rfl,stay m.pc q hm.p0 (pl hx hm.p0) hgo hd⟩
   | false =>
    right
    rw[zj1e hx] at hs
    obtain⟨hq,hy⟩:=at_ m.pc q x hm.p0 hx hgo hd
    obtain⟨nx,h2,h3⟩:=inn x m.rs m.pc q hm.p0 (pl hx hm.p0) hgo hq
    refine⟨atP m1 nx,?_,hm1,hg1,nx,rfl,?_⟩
    ·rw[zj1e (m:=atP m q) hy]
     show efM (doB (adjI gone l.length x) m.rs q) (atP m q)=_
     rw[h2]
     exact zj6f hs
    ·rw[zj5k hs]
     rcases h3 with h3 | h3
     ·obtain⟨o,ho⟩:=zj24 (m:=m) h3
      rw[ho] at hs; cases hs
     ·exact h3
theorem bet_skip1 {l:List In} (hl:l.length≤1024):Bet l (skip1 l):=by
 refine bet_drop hl _ (fun _=>True) (fun _ _=>trivial) (fun _ _ _ _ _=>trivial) fun m x hm _ hx hg=>?_
 unfold skipB at hg
 rw[hx] at hg
 have hg:goK x=1∧x.imm=((m.pc.toNat:Nat):Int)+1:=by simpa using hg
 have:=hm.p0
 exact⟨hg.1,by omega⟩
theorem bet_skipN:∀ (n:Nat) {l:List In},l.length≤1024→Bet l (skipN n l)
 | 0,l,_=>.refl l
 | n+1,l,hl=>(bet_skip1 hl).trans (bet_skipN n (Nat.le_trans (zj23 l) hl))
theorem bet_skip {l:List In} (hl:l.length≤1024):Bet l (skipL l):=bet_skipN _ hl
theorem bet_trim {l:List In} (hl:l.length≤1024):Bet l (trimL l):=by
 refine bet_drop hl _ (fun m=>Go.Lint.Reach l (m.pc,m.inn)) ?_ ?_ ?_
 ·rintro m ⟨_,h1,h2⟩
  rw[h1,h2]; exact .start
 ·intro m m1 hm hr hs
  cases hx:l[m.pc.toNat]? with
  | none =>
   unfold stepM at hs
   rw[hx] at hs
   simp only at hs
   split at hs <;> cases hs
  | some x =>
   have hp:m.pc < 1024:=by
    have:=(List.getElem?_eq_some_iff.1 hx).1
    have:=hm.p0
    omega
   rw[zj1e hx] at hs
   have hlg:legalB x=true:=by
    cases hlg:legalB x with
    | true=>rfl
    | false =>
     exfalso
     obtain⟨o,ho⟩:=zj24 (m:=m) (e:=doB x m.rs m.pc) (by unfold doB; rw[if_neg (by simp[hlg])]; rfl)
     rw[ho] at hs; cases hs
   obtain⟨h1,h2⟩:=efM_inn hs
   have:=do_nxt (r:=m.rs) hlg hm.p0 hp h2
   rw[← zj5k hs,← h1] at this
   exact .step _ _ x hr hx hlg this
 ·intro m x hm hr hx hg
  have h0:=hm.p0
  rw[zj45.2 ⟨m.inn,by rw[show ((m.pc.toNat:Nat):Int)=m.pc by omega]; exact hr⟩] at hg
  cases hg
def AgrS (s:List (Option Int)) (rs:List Int):Prop:=s.length=8∧∀ (i:Nat) (v:Int),s[i]? = some (some v)→rs[i]? = some v
theorem agr_none (rs:List Int):AgrS St0 rs:=⟨rfl,fun i v h=>by
 unfold St0 at h
 rw[List.getElem?_replicate] at h
 split at h <;> cases h⟩
theorem agr_rg {s:List (Option Int)} {rs:List Int} (h:AgrS s rs) {n:Int} (hn:isReg n=true) (hk:knO s n=true):rg (rgO s) n=rg rs n:=by
 have hn:=reg_range hn
 unfold rg rgO
 have e:n % 8=n:=by omega
 unfold knO at hk
 rw[e,List.getD_eq_getElem?_getD,List.getD_eq_getElem?_getD,List.getElem?_map]
 rw[List.getD_eq_getElem?_getD] at hk
 cases hs:s[n.toNat]? with
 | none=>rw[hs] at hk; cases hk
 | some o =>
  rw[hs] at hk
  cases o with
  | none=>cases hk
  | some v=>rw[h.2 _ _ hs]; rfl
theorem agr_set {s:List (Option Int)} {rs:List Int} (h:AgrS s rs) (i:Nat) (v:Int) (h8:rs.length=8):AgrS (s.set i (some v)) (rs.set i v):=by
 refine⟨by simp[h.1],fun j w hj=>?_⟩
 by_cases e:i=j
 ·subst e
  have hi:=(List.getElem?_eq_some_iff.1 hj).1
  rw[List.length_set,h.1] at hi
  rw[List.getElem?_set_self (by rw[h.1]; exact hi)] at hj
  rw[List.getElem?_set_self (by rw[h8]; exact hi)]
  injection hj
 ·rw[List.getElem?_set_ne e] at hj ⊢
  exact h.2 _ _ hj
theorem agr_out {s:List (Option Int)} {rs:List Int} (h:AgrS s rs) (i:Nat) (v:Int):AgrS (s.set i none) (rs.set i v):=by
 refine⟨by simp[h.1],fun j w hj=>?_⟩
 by_cases e:i=j
 ·subst e
  have hi:=(List.getElem?_eq_some_iff.1 hj).1
  rw[List.length_set] at hi
  rw[List.getElem?_set_self hi] at hj
  cases hj
 ·rw[List.getElem?_set_ne e] at hj ⊢
  exact h.2 _ _ hj
theorem small_back {v:Int} (h:isU v) (hs:smallU v=true):w64 (sgnU v)=v:=by
 unfold isU at h
 unfold smallU at hs
 simp only[Bool.or_eq_true,decide_eq_true_eq] at hs
 unfold w64 sgnU
 split <;> omega
theorem doB_regs {x:In} {r r':List Int} {p:Int} (h:(x.op=2)∨(x.op=3∧rg r x.b=rg r' x.b)∨(4≤x.op∧x.op≤10∧rg r x.b=rg r' x.b∧rg r x.c=rg r' x.c)∨(14≤x.op∧x.op≤16∧rg r x.a=rg r' x.a∧rg r x.b=rg r' x.b)):doB x r p=doB x r' p:=by
 unfold doB
 by_cases hl:legalB x=true∧0≤p∧p < 1024
 ·rw[if_pos hl,if_pos hl]
  rcases h with h | ⟨h,h1⟩ | ⟨h,k,h1,h2⟩ | ⟨h,k,h1,h2⟩
  ·simp[doE,h]
  ·simp[doE,h,h1]
  ·rw[h1,h2]
   unfold doE
   rw[if_neg (by omega:¬ x.op=12),if_neg (by omega:¬ x.op=14),if_neg (by omega:¬ x.op=15),if_neg (by omega:¬ x.op=16)]
   rw[if_neg (by omega:¬ x.op=12),if_neg (by omega:¬ x.op=14),if_neg (by omega:¬ x.op=15),if_neg (by omega:¬ x.op=16)]
  ·rw[h1,h2]
   unfold doE
   rw[if_neg (by omega:¬ x.op=4),if_neg (by omega:¬ x.op=5),if_neg (by omega:¬ x.op=6),if_neg (by omega:¬ x.op=7),if_neg (by omega:¬ x.op=8),if_neg (by omega:¬ x.op=9),if_neg (by omega:¬ x.op=10)]
   rw[if_neg (by omega:¬ x.op=4),if_neg (by omega:¬ x.op=5),if_neg (by omega:¬ x.op=6),if_neg (by omega:¬ x.op=7),if_neg (by omega:¬ x.op=8),if_neg (by omega:¬ x.op=9),if_neg (by omega:¬ x.op=10)]
 ·rw[if_neg hl,if_neg hl]
theorem op_reg {x:In} (h:legalB x=true):(2≤x.op∧x.op≤12∨14≤x.op∧x.op≤16→isReg x.a=true)∧(3≤x.op∧x.op≤12∨14≤x.op∧x.op≤16→isReg x.b=true)∧(4≤x.op∧x.op≤10→isReg x.c=true):=by
 have hr:=legal_reg h
 rcases zj0g (zj21 h) with k | k | k | k | k | k | k | k | k | k | k | k | k | k | k | k | k | k
 all_goals
  rw[k] at hr ⊢
  refine⟨fun q=>?_,fun q=>?_,fun q=>?_⟩
  all_goals first
   | (exfalso; omega)
   | exact hr.1 (by decide)
   | exact hr.2.1 (by decide)
   | exact hr.2.2 (by decide)
theorem doB_alu {x:In} {r:List Int} {p:Int} (hl:legalB x=true) (hp:0≤p∧p < 1024) (h:2≤x.op∧x.op≤10):∃ v,doB x r p=⟨1,p+1,x.a,v,0⟩:=by
 unfold doB
 rw[if_pos ⟨hl,hp⟩]
 have e:x.op=2∨x.op=3∨x.op=4∨x.op=5∨x.op=6∨x.op=7∨x.op=8∨x.op=9∨x.op=10:=by omega
 rcases e with e | e | e | e | e | e | e | e | e <;> simp[doE,e]
theorem doB_load {x:In} {r:List Int} {p:Int} (hl:legalB x=true) (hp:0≤p∧p < 1024) (h:x.op=11):∃ v,doB x r p=⟨3,p+1,x.a,0,v⟩:=by
 unfold doB
 rw[if_pos ⟨hl,hp⟩]
 simp[doE,h]
theorem doB_keep {x:In} {r:List Int} {p:Int} (h:¬ (2≤x.op∧x.op≤11)):(doB x r p).kind ≠ 1∧(doB x r p).kind ≠ 3:=by
 have h4:∀ (i:Int) (b:Bool),(goE i p b).kind ≠ 1∧(goE i p b).kind ≠ 3:=fun i b=>by
  unfold goE; cases b
  ·simp
  ·by_cases k:i < 0∨1024 < i
   ·simp[k,Ef.zero]
   ·simp[k]
 unfold doB
 by_cases hl:legalB x=true∧0≤p∧p < 1024
 ·rw[if_pos hl]
  rcases zj0g (zj21 hl.1) with k | k | k | k | k | k | k | k | k | k | k | k | k | k | k | k | k | k
  all_goals first
   | (exfalso; omega)
   | (simp only[doE,k]; simp; done)
   | (simp only[doE,k]; simp; exact h4 _ _)
 ·rw[if_neg hl]; simp[Ef.zero]
theorem efM_keep {e:Ef} {m m1:Mc} (h:efM e m=.on m1) (h1:e.kind ≠ 1) (h3:e.kind ≠ 3):m1.rs=m.rs:=by
 unfold efM at h
 rw[if_neg h1] at h
 repeat' split at h
 all_goals first
  | cases h; done
  | (injection h with h; subst h; first | rfl | exact absurd (by assumption) h3)
theorem jump_any {q p:Int} {r:List Int} (hq:0≤q∧q≤1024) (hp:0≤p∧p < 1024):doB ⟨13,0,0,0,q⟩ r p=⟨2,q,0,0,0⟩ :=
 jump_do (x:=⟨13,0,0,0,q⟩) (by
  unfold goK
  rw[if_pos ⟨rfl,hq⟩]
  rfl) hp.1 hp.2
theorem fold_step {x:In} {s:List (Option Int)} {m:Mc} {p:Nat} (hm:McOk m) (hp:m.pc=(p:Int)) (hp2:p < 1024) (ha:AgrS s m.rs) :
  doB (foldI x s p).1 m.rs m.pc=doB x m.rs m.pc∧∀ m1,efM (doB x m.rs m.pc) m=.on m1→AgrS (foldI x s p).2 m1.rs:=by
 have hpp:0≤m.pc∧m.pc < 1024:=by omega
 unfold foldI
 cases hl:legalB x with
 | false =>
  refine⟨rfl,fun m1 h=>?_⟩
  obtain⟨o,ho⟩:=zj24 (m:=m) (e:=doB x m.rs m.pc) (by unfold doB; rw[if_neg (by simp[hl])]; rfl)
  rw[ho] at h; cases h
 | true =>
  obtain⟨ra,rb,rc⟩:=op_reg hl
  rw[if_neg (by simp)]
  have keep:¬ (2≤x.op∧x.op≤11)→∀ m1,efM (doB x m.rs m.pc) m=.on m1→AgrS s m1.rs:=by
   intro h m1 h1
   have:=doB_keep (x:=x) (r:=m.rs) (p:=m.pc) h
   rw[efM_keep h1 this.1 this.2]
   exact ha
  split
  ·rename_i hb
   unfold brG at hb
   simp only[Bool.and_eq_true,decide_eq_true_eq] at hb
   have k:=keep (by omega)
   split
   ·rename_i hk
    simp only[Bool.and_eq_true] at hk
    refine⟨?_,k⟩
    have e:doB x (rgO s) p=doB x m.rs p:=doB_regs (.inr (.inr (.inr ⟨hb.2.1,hb.2.2,agr_rg ha (ra (by omega)) hk.1,agr_rg ha (rb (by omega)) hk.2⟩)))
    rw[e,← hp]
    obtain⟨b,hb2⟩:=doE_go (x:=x) (by omega) (rg m.rs x.a) (rg m.rs x.b) (rg m.rs x.c)
    have e2:doB x m.rs m.pc=goE x.imm m.pc b:=by
     unfold doB; rw[if_pos ⟨hl,hpp⟩]; exact hb2 x.imm m.pc
    have e3:goE x.imm m.pc b=⟨2,(goE x.imm m.pc b).next,0,0,0⟩∧0≤(goE x.imm m.pc b).next∧(goE x.imm m.pc b).next≤1024:=by
     unfold goE
     cases b
     ·exact⟨rfl,by simp; omega,by simp; omega⟩
     ·rw[if_pos rfl,if_neg (by omega)]
      exact⟨rfl,hb.1.2.1,hb.1.2.2⟩
    rw[e2,jump_any e3.2 hpp]
    exact e3.1.symm
   ·exact⟨rfl,k⟩
  ·split
   ·rename_i h11
    refine⟨rfl,fun m1 h=>?_⟩
    obtain⟨v,hv⟩:=doB_load (r:=m.rs) hl hpp h11
    rw[hv] at h
    unfold efM at h
    simp only at h
    rw[if_neg (by decide),if_neg (by decide),if_pos (by decide)] at h
    split at h
    ·injection h with h; subst h
     exact agr_out ha _ _
    ·cases h
   ·rename_i h11
    split
    ·exact⟨rfl,keep (by omega)⟩
    ·rename_i hop
     obtain⟨v,hv⟩:=doB_alu (r:=m.rs) hl hpp (by omega)
     have on:∀ m1,efM (doB x m.rs m.pc) m=.on m1→m1.rs=m.rs.set x.a.toNat v:=by
      intro m1 h
      rw[hv] at h
      unfold efM at h
      simp only at h
      rw[if_pos (by decide)] at h
      injection h with h; subst h; rfl
     split
     ·rename_i hk
      have e:doB x (rgO s) p=doB x m.rs p:=by
       refine doB_regs ?_
       unfold foldK at hk
       by_cases h2:x.op=2
       ·exact .inl h2
       ·rw[if_neg h2] at hk
        by_cases h3:x.op=3
        ·rw[if_pos h3] at hk
         exact .inr (.inl ⟨h3,agr_rg ha (rb (by omega)) hk⟩)
        ·rw[if_neg h3] at hk
         simp only[Bool.and_eq_true] at hk
         exact .inr (.inr (.inl ⟨by omega,by omega,agr_rg ha (rb (by omega)) hk.1,agr_rg ha (rc (by omega)) hk.2⟩))
      rw[e,← hp,hv]
      dsimp only
      constructor
      ·split
       ·rename_i h2
        have hu:isU v:=by
         have:=doB_value (x:=x) (p:=m.pc) hm.u
         rw[hv] at this; exact this
        have e4:=small_back hu h2.2
        have hr:=ra (by omega)
        unfold doB
        have hl2:legalB ⟨2,x.a,0,0,sgnU v⟩=true:=by
         unfold legalB
         rw[hr]; rfl
        rw[if_pos ⟨hl2,hpp⟩]
        simp[doE,e4]
       ·exact hv
      ·intro m1 h
       rw[← hv] at h
       rw[on m1 h]
       exact agr_set ha _ _ hm.r8
     ·refine⟨rfl,fun m1 h=>?_⟩
      rw[on m1 h]
      exact agr_out ha _ _
theorem bet_fold {l:List In} (hl:l.length≤1024):Bet l (foldL l):=by
 intro n m hm
 have hat:∀ i:Nat,(foldL l)[i]? = (l[i]?).map (foldA l i):=fun i=>by unfold foldL; rw[List.getElem?_mapIdx]
 refine sim_run (R:=fun m m'=>m'=m∧McOk m∧(m.pc < l.length→AgrS (stA l (bgL l) m.pc.toNat) m.rs)) ?_ n n m m ⟨rfl,hm.1,fun _=>by rw[hm.2.1]; exact agr_none _⟩ (Nat.le_refl _)
 have same:∀ m:Mc,McOk m→(m.pc < l.length→AgrS (stA l (bgL l) m.pc.toNat) m.rs)→stepM (foldL l) m=stepM l m:=by
  intro m hm ha
  unfold stepM
  rw[hat]
  cases hx:l[m.pc.toNat]? with
  | none=>rfl
  | some x =>
   have h1:=(List.getElem?_eq_some_iff.1 hx).1
   have:=hm.p0
   have hf:=fold_step (x:=x) (p:=m.pc.toNat) hm (by omega) (by omega) (ha (by omega))
   show efM (doB (foldA l m.pc.toNat x) m.rs m.pc) m=_
   unfold foldA
   rw[hf.1]
 refine⟨?_,?_,?_⟩
 ·rintro m m' o ⟨rfl,hm,ha⟩ hs
  rw[same m' hm ha]; exact hs
 ·rintro m m' o ⟨rfl,hm,ha⟩ hs
  rw[same m' hm ha]; exact hs
 ·rintro m m' m1 ⟨rfl,hm,ha⟩ hs
  right
  refine⟨m1,by rw[same m' hm ha]; exact hs,rfl,zj39 hm hs,fun hlt=>?_⟩
  cases hx:l[m'.pc.toNat]? with
  | none =>
   unfold stepM at hs
   rw[hx] at hs
   simp only at hs
   split at hs <;> cases hs
  | some x =>
   have h1:=(List.getElem?_eq_some_iff.1 hx).1
   have h0:=hm.p0
   have hne:l ≠ []:=by intro e; subst e; simp at h1
   have hm1:=zj39 hm hs
   rw[zj1e hx] at hs
   have hf:=fold_step (x:=x) (p:=m'.pc.toNat) hm (by omega) (by omega) (ha (by omega))
   have hn:=zj5k hs
   have h10:=hm1.p0
   by_cases hb:m1.pc ∈ bgL l
   ·rw[stA_beg (by rw[show ((m1.pc.toNat:Nat):Int)=m1.pc by omega]; exact hb)]
    exact agr_none _
   ·have hp1:m1.pc=m'.pc+1:=by
     cases he:endsB x with
     | false =>
      have:=(do_mid (r:=m'.rs) (p:=m'.pc.toNat) he (by omega)).2.2
      rw[show ((m'.pc.toNat:Nat):Int)=m'.pc by omega] at this
      rw[hn,this]
     | true =>
      exfalso
      have k0:(doB x m'.rs m'.pc).kind ≠ 0:=fun k=>by
       obtain⟨o,ho⟩:=zj24 (m:=m') k
       rw[ho] at hs; cases hs
      have k7:(doB x m'.rs m'.pc).kind ≠ 7:=fun k=>by
       unfold efM at hs
       rw[k] at hs
       simp at hs
       split at hs <;> cases hs
      have hg:=do_goes (n:=l.length) (y:=x) (r:=m'.rs) (p:=m'.pc.toNat) (by omega) h1 (by rw[show ((m'.pc.toNat:Nat):Int)=m'.pc by omega]; exact k0) (by rw[show ((m'.pc.toNat:Nat):Int)=m'.pc by omega]; exact k7) (by rw[show ((m'.pc.toNat:Nat):Int)=m'.pc by omega,← hn]; exact hlt)
      rw[show ((m'.pc.toNat:Nat):Int)=m'.pc by omega,← hn] at hg
      exact hb ((bgL_mem hne _).2 (.inr ⟨_,x,hx,he,.inr hg⟩))
    have e:m1.pc.toNat=m'.pc.toNat+1:=by omega
    rw[e,stA_mid hx (by rw[← e,show ((m1.pc.toNat:Nat):Int)=m1.pc by omega]; exact hb)]
    exact hf.2 m1 hs
theorem bet_round {l:List In} (hl:l.length≤1024):Bet l (optR l):=by
 have l1:(foldL l).length≤1024:=by rw[zj1j]; exact hl
 have l2:(zj0a (foldL l)).length≤1024:=by rw[zj1m]; exact l1
 have l3:(skipL (zj0a (foldL l))).length≤1024:=Nat.le_trans (zj3n _) l2
 exact (bet_fold hl).trans ((zj6h l1).trans ((bet_skip l2).trans (bet_trim l3)))
theorem bet_optN:∀ (n:Nat) {l:List In},l.length≤1024→Bet l (optN n l)
 | 0,l,_=>.refl l
 | n+1,l,hl=>by
  unfold optN
  split
  ·exact .refl l
  ·exact (bet_round hl).trans (bet_optN n (Nat.le_trans (zj7m l) hl))
theorem bet_opt {l:List In} (hl:l.length≤1024):Bet l (optL l):=bet_optN _ hl
end Go.Proofs.YtgghmmjoplddbaaGreatDoor
