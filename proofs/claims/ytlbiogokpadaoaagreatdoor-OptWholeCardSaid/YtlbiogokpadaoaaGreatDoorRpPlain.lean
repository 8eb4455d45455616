/- The document's parts: what they come to, in plain words. -/
import Derived.Test.YtlbiogokpadaoaaGreatDoorFlPlain
set_option linter.unusedSimpArgs false
set_option linter.unusedVariables false
set_option linter.unnecessarySimpa false
namespace Go.Isa
open Go
def putB (f:List Bool) (ts:List Int):List Bool:=ts.foldl (fun f t=>f.set t.toNat true) f
theorem putB_snoc (f:List Bool) (ts:List Int) (t:Int):putB f (ts++[t])=(putB f ts).set t.toNat true:=by unfold putB; rw[List.foldl_append]; rfl
theorem putB_len (f:List Bool) (ts:List Int):(putB f ts).length=f.length:=by
 unfold putB
 induction ts generalizing f with
 | nil=>rfl
 | cons t ts ih=>rw[List.foldl_cons,ih,List.length_set]
theorem zj7i {f:List Bool} {j k:Nat} (hj:j < f.length):(f.set k true)[j]? = some true ↔ k=j∨f[j]? = some true:=by
 rw[List.getElem?_set]
 by_cases h:k=j
 ·subst h; simp[hj]
 ·simp[h]
theorem putB_get (f:List Bool) (ts:List Int) {j:Nat} (hj:j < f.length) (hts:∀ t ∈ ts,0≤t):(putB f ts)[j]? = some true ↔ (j:Int) ∈ ts∨f[j]? = some true:=by
 unfold putB
 induction ts generalizing f with
 | nil=>simp
 | cons t ts ih =>
  have ht:=hts t (by simp)
  rw[List.foldl_cons,ih (f.set t.toNat true) (by rw[List.length_set]; exact hj) (fun s hs=>hts s (by simp[hs])),zj7i hj,List.mem_cons]
  constructor
  ·rintro (h | h | h)
   ·exact .inl (.inr h)
   ·exact .inl (.inl (by omega))
   ·exact .inr h
  ·rintro ((h | h) | h)
   ·exact .inr (.inl (by omega))
   ·exact .inl h
   ·exact .inr (.inr h)
def fsI (n i:Nat) (x:In) (f:List Bool):List Bool:=if endsB x then putB (f.set (i+1) true) (goesL n i x) else f
def fsT (l:List In):Nat→List Bool
 | 0=>(List.replicate (l.length+1) false).set 0 true
 | i+1=>match l[i]? with | some x=>fsI l.length i x (fsT l i) | none=>fsT l i
theorem zj48 (l:List In):∀ i,(fsT l i).length=l.length+1
 | 0=>by simp[fsT]
 | i+1=>by
  unfold fsT
  split
  ·unfold fsI
   split
   ·rw[putB_len,List.length_set]; exact zj48 l i
   ·exact zj48 l i
  ·exact zj48 l i
theorem fsT_step {l:List In} {i:Nat} {x:In} (h:l[i]? = some x):fsT l (i+1)=fsI l.length i x (fsT l i):=by
 conv=>lhs; unfold fsT
 rw[h]
theorem fsT_get (l:List In) {j:Nat} (hj:j≤l.length):∀ i,(fsT l i)[j]? = some true ↔ j=0∨∃ k y,k < i∧l[k]? = some y∧endsB y=true∧(j=k+1∨(j:Int) ∈ goesL l.length k y)
 | 0=>by
  unfold fsT
  rw[zj7i (by simp; omega)]
  constructor
  ·rintro (h | h)
   ·exact .inl h.symm
   ·rw[List.getElem?_replicate] at h; split at h <;> simp at h
  ·rintro (h | ⟨k,y,h,_⟩)
   ·exact .inl h.symm
   ·omega
 | i+1=>by
  have ih:=fsT_get l hj i
  cases hx:l[i]? with
  | none =>
   have e : fsT l (i + 1) = fsT l i := by conv => lhs; unfold fsT
                                          rw[hx]
   rw[e,ih]
   constructor
   ·rintro (h | ⟨k,y,h,r⟩)
    ·exact .inl h
    ·exact .inr ⟨k,y,by omega,r⟩
   ·rintro (h | ⟨k,y,h,r⟩)
    ·exact .inl h
    ·by_cases hk:k=i
     ·subst hk; rw[hx] at r; exact absurd r.1 (by simp)
     ·exact .inr ⟨k,y,by omega,r⟩
  | some x =>
   rw[fsT_step hx]
   unfold fsI
   cases he:endsB x with
   | false =>
    simp only[Bool.false_eq_true,if_false]
    rw[ih]
    constructor
    ·rintro (h | ⟨k,y,h,r⟩)
     ·exact .inl h
     ·exact .inr ⟨k,y,by omega,r⟩
    ·rintro (h | ⟨k,y,h,r⟩)
     ·exact .inl h
     ·by_cases hk:k=i
      ·subst hk; rw[hx] at r; obtain⟨e,r,_⟩:=r; injection e with e; subst e; rw[he] at r; simp at r
      ·exact .inr ⟨k,y,by omega,r⟩
   | true =>
    simp only[if_true]
    rw[putB_get _ _ (by rw[List.length_set,zj48]; omega) (fun t ht=>(zj1u ht).1),zj7i (by rw[zj48]; omega),ih]
    constructor
    ·rintro (h | h | h | ⟨k,y,h,r⟩)
     ·exact .inr ⟨i,x,by omega,hx,he,.inr h⟩
     ·exact .inr ⟨i,x,by omega,hx,he,.inl h.symm⟩
     ·exact .inl h
     ·exact .inr ⟨k,y,by omega,r⟩
    ·rintro (h | ⟨k,y,h,r⟩)
     ·exact .inr (.inr (.inl h))
     ·by_cases hk:k=i
      ·subst hk
       rw[hx] at r
       obtain⟨e,_,r⟩:=r; injection e with e; subst e
       rcases r with r | r
       ·exact .inr (.inl r.symm)
       ·exact .inl r
      ·exact .inr (.inr (.inr ⟨k,y,by omega,r⟩))
def fsB (l:List In) (j:Nat):Bool:=(fsT l l.length).getD j false
theorem fsB_mem {l:List In} {j:Nat} (hj:j < l.length):fsB l j=true ↔ (j:Int) ∈ bgL l:=by
 have hl:l ≠ []:=by intro e; subst e; simp at hj
 have h1:fsB l j=true ↔ (fsT l l.length)[j]? = some true:=by
  unfold fsB
  rw[List.getD_eq_getElem?_getD]
  cases h:(fsT l l.length)[j]? with
  | none=>simp
  | some b=>simp
 rw[h1,fsT_get l (by omega),bgL_mem hl]
 constructor
 ·rintro (h | ⟨k,y,h,hy,he,r⟩)
  ·exact .inl (by omega)
  ·refine .inr ⟨k,y,hy,he,?_⟩
   rcases r with r | r
   ·exact .inl ⟨by omega,by omega⟩
   ·exact .inr r
 ·rintro (h | ⟨k,y,hy,he,r⟩)
  ·exact .inl (by omega)
  ·refine .inr ⟨k,y,(List.getElem?_eq_some_iff.1 hy).1,hy,he,?_⟩
   rcases r with⟨_,r⟩ | r
   ·exact .inl (by omega)
   ·exact .inr r
def frT (l:List In):Nat→List Int
 | 0=>[]
 | i+1=>if fsB l i then frT l i++[(i:Int)] else frT l i
theorem zj6h (l:List In) (t:Int):∀ i,i≤l.length→(t ∈ frT l i ↔ t ∈ bgL l∧t < i)
 | 0,_=>by
  simp only[frT,List.not_mem_nil,false_iff]
  rintro ⟨h,h2⟩
  have:=zj10 h; omega
 | i+1,hi=>by
  have ih:=zj6h l t i (by omega)
  have hb:=fsB_mem (l:=l) (j:=i) (by omega)
  unfold frT
  split
  ·rename_i h
   rw[List.mem_append,ih,List.mem_singleton]
   constructor
   ·rintro (⟨h1,h2⟩ | h1)
    ·exact⟨h1,by omega⟩
    ·subst h1; exact⟨hb.1 h,by omega⟩
   ·rintro ⟨h1,h2⟩
    by_cases e:t=i
    ·exact .inr e
    ·exact .inl ⟨h1,by omega⟩
  ·rename_i h
   rw[ih]
   constructor
   ·rintro ⟨h1,h2⟩; exact⟨h1,by omega⟩
   ·rintro ⟨h1,h2⟩
    refine⟨h1,?_⟩
    have:t ≠ i:=by intro e; subst e; exact h (hb.2 h1)
    omega
theorem frT_up (l:List In):∀ i,i≤l.length→(frT l i).Pairwise (· < ·)
 | 0,_=>by simp[frT]
 | i+1,hi=>by
  unfold frT
  split
  ·refine List.pairwise_append.2 ⟨frT_up l i (by omega),by simp,fun a ha b hb=>?_⟩
   have:=(zj6h l a i (by omega)).1 ha
   simp only[List.mem_singleton] at hb
   omega
  ·exact frT_up l i (by omega)
theorem frT_all (l:List In):frT l l.length=bgL l :=
 up_ext (frT_up l _ (Nat.le_refl _)) (bgL_up l) fun t=>by
  rw[zj6h l t _ (Nat.le_refl _)]
  exact⟨fun h=>h.1,fun h=>⟨h,(zj10 h).2⟩⟩
theorem frT_len (l:List In):∀ i,(frT l i).length≤i
 | 0=>by simp[frT]
 | i+1=>by
  have:=frT_len l i
  unfold frT
  split
  ·rw[List.length_append]; simp; omega
  ·omega
theorem frT_pre (l:List In) (i:Nat):∀ k,∃ r,frT l (i+k)=frT l i++r
 | 0=>⟨[],by simp⟩
 | k+1=>by
  obtain⟨r,h⟩:=frT_pre l i k
  show ∃ r,frT l (i+k+1)=_
  have e:frT l (i+k+1)=if fsB l (i+k) then frT l (i+k)++[((i+k:Nat):Int)] else frT l (i+k):=rfl
  rw[e]
  split
  ·exact⟨r++[((i+k:Nat):Int)],by rw[h,List.append_assoc]⟩
  ·exact⟨r,h⟩
theorem posI_frT {l:List In} {i:Nat} (hi:i≤l.length):posI (bgL l) (i:Int)=(frT l i).length:=by
 obtain⟨r,h⟩:=frT_pre l i (l.length - i)
 rw[Nat.add_sub_cancel' hi,frT_all] at h
 unfold posI
 rw[h,List.countP_append]
 have h1:(frT l i).countP (fun y=>decide (y < (i:Int)))=(frT l i).length:=List.countP_eq_length.2 fun a ha=>by
  have:=(zj6h l a i hi).1 ha
  simpa using this.2
 have h2:r.countP (fun y=>decide (y < (i:Int)))=0:=List.countP_eq_zero.2 fun a ha=>by
  have hb:a ∈ bgL l:=by rw[h]; simp[ha]
  simp only[decide_eq_true_eq]
  intro hlt
  have hm:=(zj6h l a i hi).2 ⟨hb,hlt⟩
  have hp:=bgL_up l
  rw[h] at hp
  have:=(List.pairwise_append.1 hp).2.2 a hm a ha
  omega
 omega
def nuI (l:List In) (i:Nat):Int:=((frT l (i+1)).length:Int) - 1
def nuT (l:List In) (i:Nat):List Int:=(List.range (l.length+1)).map fun j=>if j < i then nuI l j else 0
theorem nuT_len (l:List In) (i:Nat):(nuT l i).length=l.length+1:=by simp[nuT]
theorem nuT_zero (l:List In):nuT l 0=List.replicate (l.length+1) 0:=by
 apply List.ext_getElem?
 intro j
 unfold nuT
 rw[List.getElem?_map,List.getElem?_replicate]
 rcases Nat.lt_or_ge j (l.length+1) with h | h
 ·rw[List.getElem?_range h]; simp[h]
 ·rw[List.getElem?_eq_none (by simp; omega)]; simp; omega
theorem nuT_step (l:List In) (i:Nat):nuT l (i+1)=(nuT l i).set i (nuI l i):=by
 apply List.ext_getElem?
 intro j
 rw[List.getElem?_set]
 unfold nuT
 simp only[List.getElem?_map,List.length_map,List.length_range]
 rcases Nat.lt_or_ge j (l.length+1) with h | h
 ·rw[List.getElem?_range h]
  by_cases e:i=j
  ·subst e; simp[h]
  ·simp only[e,if_false,Option.map_some]
   by_cases h2:j < i
   ·simp[h2,Nat.lt_succ_of_lt h2]
   ·have:¬ j < i+1:=by omega
    simp[h2,this]
 ·rw[List.getElem?_eq_none (by simp; omega)]
  by_cases e:i=j
  ·subst e; simp; omega
  ·simp[e]
theorem nuT_get {l:List In} {j:Nat} (h:j < l.length):(nuT l l.length)[j]? = some (nuI l j):=by
 unfold nuT
 rw[List.getElem?_map,List.getElem?_range (by omega)]; simp[h]
theorem nuI_at {l:List In} {j:Nat} (h:j < l.length) (hb:(j:Int) ∈ bgL l):nuI l j=(posI (bgL l) (j:Int):Int):=by
 rw[posI_frT (by omega)]
 unfold nuI
 have e:frT l (j+1)=if fsB l j then frT l j++[(j:Int)] else frT l j:=rfl
 rw[e,if_pos ((fsB_mem h).2 hb),List.length_append]
 simp
def isN (l:List In) (ts:List Int) (m:Nat):Bool:=ts.any fun t=>nuI l t.toNat == (m:Int)
def nxD (l:List In) (ts:List Int):Nat→List Int
 | 0=>[]
 | m+1=>if isN l ts m then nxD l ts m++[(m:Int)] else nxD l ts m
theorem nxD_mem (l:List In) (ts:List Int) (x:Int):∀ m,x ∈ nxD l ts m ↔ ∃ k:Nat,k < m∧x=k∧isN l ts k=true
 | 0=>by simp[nxD]
 | m+1=>by
  have ih:=nxD_mem l ts x m
  unfold nxD
  split
  ·rename_i h
   rw[List.mem_append,ih,List.mem_singleton]
   constructor
   ·rintro (⟨k,h1,h2⟩ | h1)
    ·exact⟨k,by omega,h2⟩
    ·exact⟨m,by omega,h1,h⟩
   ·rintro ⟨k,h1,h2,h3⟩
    by_cases e:k=m
    ·subst e; exact .inr h2
    ·exact .inl ⟨k,by omega,h2,h3⟩
  ·rename_i h
   rw[ih]
   constructor
   ·rintro ⟨k,h1,h2⟩; exact⟨k,by omega,h2⟩
   ·rintro ⟨k,h1,h2,h3⟩
    refine⟨k,?_,h2,h3⟩
    have:k ≠ m:=by intro e; subst e; exact h h3
    omega
theorem nxD_up (l:List In) (ts:List Int):∀ m,(nxD l ts m).Pairwise (· < ·)
 | 0=>by simp[nxD]
 | m+1=>by
  unfold nxD
  split
  ·refine List.pairwise_append.2 ⟨nxD_up l ts m,by simp,fun a ha b hb=>?_⟩
   obtain⟨k,h1,h2,_⟩:=(nxD_mem l ts a m).1 ha
   simp only[List.mem_singleton] at hb
   omega
  ·exact nxD_up l ts m
theorem nxD_len (l:List In) (ts:List Int):∀ m,(nxD l ts m).length≤m
 | 0=>by simp[nxD]
 | m+1=>by
  have:=nxD_len l ts m
  unfold nxD
  split
  ·rw[List.length_append]; simp; omega
  ·omega
theorem nxD_all {l:List In} {ts:List Int} (hts:∀ t ∈ ts,t ∈ bgL l):nxD l ts (bgL l).length=upI (ts.map fun t=>(posI (bgL l) t:Int)) :=
 up_ext (nxD_up l ts _) (upI_up _) fun x=>by
  have key:∀ t ∈ ts,nuI l t.toNat=(posI (bgL l) t:Int):=fun t ht=>by
   have hr:=zj10 (hts t ht)
   have e:(t.toNat:Int)=t:=by omega
   have:=nuI_at (l:=l) (j:=t.toNat) (by omega) (by rw[e]; exact hts t ht)
   rw[e] at this; exact this
  rw[nxD_mem,upI_mem,List.mem_map]
  unfold isN
  constructor
  ·rintro ⟨k,h1,h2,h3⟩
   rw[List.any_eq_true] at h3
   obtain⟨t,ht,h4⟩:=h3
   refine⟨t,ht,?_⟩
   rw[key t ht] at h4
   rw[h2]; simpa using h4
  ·rintro ⟨t,ht,h⟩
   refine⟨posI (bgL l) t,posI_lt (bgL_up l) (hts t ht),h.symm,?_⟩
   rw[List.any_eq_true]
   exact⟨t,ht,by rw[key t ht]; simp⟩
end Go.Isa
