/- The plain law of numerals and words: a number's numeral says it; a line's words are what was put between blanks. -/
import Derived.Lib.ItoaNum
import Derived.Lib.AtoiAllCases
import Derived.Lib.Split
import Derived.Lib.CountLaws
import Derived.Test.YtaiajnehnjnadaaGreatDoorIsaSpec
set_option linter.unusedSimpArgs false
set_option linter.unusedVariables false
set_option linter.unnecessarySimpa false
namespace Go.Il
open Go Go.Lib
theorem pu_app:∀ (l r:List UInt8) (acc a:Nat),parseUint10 acc l=.ok a→parseUint10 acc (l++r)=parseUint10 a r
 | [],r,acc,a,h=>by
  simp only[parseUint10] at h
  injection h with h; subst h; rfl
 | c :: l,r,acc,a,h=>by
  rw[List.cons_append]
  simp only[parseUint10] at h ⊢
  split at h
  ·rename_i h1
   rw[if_pos h1]
   split at h
   ·cases h
   ·rename_i h2
    rw[if_neg h2]
    split at h
    ·cases h
    ·rename_i h3
     rw[if_neg h3]
     exact pu_app l r _ a h
  ·cases h
theorem pu_one (acc d:Nat) (hd:d < 10) (h:acc*10+d < 18446744073709551616):parseUint10 acc [UInt8.ofNat (48+d)]=.ok (acc*10+d):=by
 have e:(UInt8.ofNat (48+d)).toNat=48+d:=by rw[UInt8.toNat_ofNat']; omega
 simp only[parseUint10,e]
 rw[if_pos (by omega),if_neg (by omega),if_neg (by omega),show 48+d - 48=d by omega]
theorem pu_dec (u:Nat) (h:u < 18446744073709551616):parseUint10 0 (decDigits u)=.ok u:=by
 rw[decDigits]
 split
 ·rename_i h1
  have:=pu_one 0 u h1 (by omega)
  simpa using this
 ·rename_i h1
  rw[pu_app _ _ _ _ (pu_dec (u / 10) (by omega)),pu_one _ _ (by omega) (by omega)]
  congr 1; omega
termination_by u
decreasing_by omega
theorem dec_digit (u:Nat):∀ c ∈ decDigits u,48≤c.toNat∧c.toNat≤57:=by
 rw[decDigits]
 split
 ·rename_i h1
  intro c hc
  rw[List.mem_singleton.1 hc,UInt8.toNat_ofNat']; omega
 ·intro c hc
  rcases List.mem_append.1 hc with hc | hc
  ·exact dec_digit (u / 10) c hc
  ·rw[List.mem_singleton.1 hc,UInt8.toNat_ofNat']; omega
termination_by u
decreasing_by omega
theorem dec_ne (u:Nat):decDigits u ≠ []:=by
 rw[decDigits]; split <;> simp
theorem mag_dec (u:Nat) (h:u < 18446744073709551616):parseMag (decDigits u)=.ok u:=by
 unfold parseMag; rw[if_neg (dec_ne u)]; exact pu_dec u h
theorem atoi_itoa {n:Int} (h0 : -9223372036854775808≤n) (h1:n≤9223372036854775807):atoiAll (itoa n)=.ok n:=by
 unfold itoa
 split
 ·rw[atoiAll_minus,mag_dec _ (by omega)]
  show (if 9223372036854775808 < n.natAbs then NumEnd.range else NumEnd.ok (-(n.natAbs:Int)))=_
  rw[if_neg (by omega)]
  congr 1; omega
 ·cases e:decDigits n.toNat with
  | nil=>exact absurd e (dec_ne _)
  | cons c r =>
   have hd:=dec_digit n.toNat c (by rw[e]; simp)
   rw[atoiAll_plain c r (by omega) (by omega),← e,mag_dec _ (by omega)]
   show (if 9223372036854775808≤n.toNat then NumEnd.range else NumEnd.ok (n.toNat:Int))=_
   rw[if_neg (by omega)]
   congr 1; omega
theorem itoa_no32 (n:Int):∀ c ∈ itoa n,c ≠ 32:=by
 intro c hc e
 subst e
 unfold itoa at hc
 split at hc
 ·rcases List.mem_cons.1 hc with hc | hc
  ·cases hc
  ·have:=(dec_digit _ _ hc).1
   exact absurd this (by decide)
 ·have:=(dec_digit _ _ hc).1
  exact absurd this (by decide)
def sp:ByteArray:=⟨⟨[32]⟩⟩
def jn (w:List UInt8) (ps:List (List UInt8)):List UInt8:=w++ps.flatMap fun p=>32 :: p
def no32 (w:List UInt8):Prop:=∀ c ∈ w,c ≠ 32
theorem zj49:∀ {w:List UInt8},no32 w→indexByte w 32 = -1
 | [],_=>rfl
 | b :: l,h=>by
  unfold indexByte
  rw[if_neg (by simpa using h b (by simp)),zj49 (fun c hc=>h c (by simp[hc]))]; rfl
theorem ib_at:∀ {w:List UInt8} (r:List UInt8),no32 w→indexByte (w++32 :: r) 32=w.length
 | [],r,_=>by simp[indexByte]
 | b :: l,r,h=>by
  rw[List.cons_append]
  unfold indexByte
  rw[if_neg (by simpa using h b (by simp)),ib_at r (fun c hc=>h c (by simp[hc])),if_neg (by simp)]
  simp
theorem zj2g {w:List UInt8} (h:no32 w):indexB ⟨⟨w⟩⟩ sp = -1:=by
 show index w [32] = -1
 rw[index_one,zj49 h]
theorem idx_at {w:List UInt8} (r:List UInt8) (h:no32 w):indexB ⟨⟨w++32 :: r⟩⟩ sp=w.length:=by
 show index (w++32 :: r) [32]=_
 rw[index_one,ib_at r h]
theorem ba_eq {a b:ByteArray} (h:a.data.toList=b.data.toList):a=b:=by
 cases a; cases b; congr 1; exact Array.toList_inj.1 h
theorem zj2h (w r:List UInt8):(⟨⟨w++32 :: r⟩⟩:ByteArray).extract (w.length+sp.size) (⟨⟨w++32 :: r⟩⟩:ByteArray).size=⟨⟨r⟩⟩:=by
 apply ba_eq
 rw[extract_to_end]
 show (w++32 :: r).drop (w.length+1)=r
 rw[List.drop_append]; simp
theorem zj4y (w r:List UInt8):(⟨⟨w++32 :: r⟩⟩:ByteArray).extract 0 (w.length+0)=⟨⟨w⟩⟩:=by
 apply ba_eq
 rw[extract_data]
 show ((w++32 :: r).drop 0).take (w.length+0 - 0)=w
 simp
theorem zj2i (w p:List UInt8) (ps:List (List UInt8)):jn w (p :: ps)=w++32 :: jn p ps:=by simp[jn]
theorem zj2j:∀ (ps:List (List UInt8)) (w:List UInt8),no32 w→(∀ p ∈ ps,no32 p)→∀ k,ps.length≤k→splitB sp 0 k ⟨⟨jn w ps⟩⟩=(w :: ps).map fun p=>⟨⟨p⟩⟩
 | [],w,hw,_,k,_=>by
  have:jn w []=w:=by simp[jn]
  rw[this,splitB_miss _ _ _ _ (zj2g hw)]; rfl
 | p :: ps,w,hw,hp,k+1,hk=>by
  rw[zj2i,splitB_hit sp 0 k _ w.length (idx_at _ hw),zj2h,zj4y,zj2j ps p (hp p (by simp)) (fun q hq=>hp q (by simp[hq])) k (by simp at hk; omega)]
  rfl
theorem zj2k:∀ (ps:List (List UInt8)) (w:List UInt8),no32 w→(∀ p ∈ ps,no32 p)→countB ⟨⟨jn w ps⟩⟩ sp=ps.length
 | [],w,hw,_=>by
  have:jn w []=w:=by simp[jn]
  rw[this,countB_miss _ _ (zj2g hw)]; rfl
 | p :: ps,w,hw,hp=>by
  rw[zj2i,countB_hit _ sp w.length (by decide) (idx_at _ hw),zj2h,zj2k ps p (hp p (by simp)) (fun q hq=>hp q (by simp[hq]))]
  simp; omega
theorem words_jn (ps:List (List UInt8)) (w:List UInt8) (hw:no32 w) (hp:∀ p ∈ ps,no32 p):splitB sp 0 (countB ⟨⟨jn w ps⟩⟩ sp) ⟨⟨jn w ps⟩⟩=(w :: ps).map fun p=>⟨⟨p⟩⟩:=by
 rw[zj2k ps w hw hp]; exact zj2j ps w hw hp _ (Nat.le_refl _)
end Go.Il
namespace Go.Bk
open Go Go.Isa
set_option maxRecDepth 100000
theorem fld64 {x:In} (h:in64 x) (c:Int):is64 (fld x c):=by
 obtain⟨h0,h1,h2,h3,h4⟩:=h
 unfold fld; repeat' split
 all_goals assumption
theorem zj2q {x:In} (h:in64 x) {c n:Int} (hn:is64 n):in64 (setF x c n):=by
 obtain⟨h0,h1,h2,h3,h4⟩:=h
 unfold setF
 repeat' split
 all_goals (refine⟨?_,?_,?_,?_,?_⟩ <;> assumption)
theorem setL_64:∀ (nm:List UInt8) (ws:List ByteArray) (x y:In),in64 x→setL x nm ws=some y→in64 y
 | [],ws,x,y,hx,h=>by simp only[setL] at h; injection h with h; subst h; exact hx
 | c :: nm,[],x,y,hx,h=>by simp[setL] at h
 | c :: nm,w :: ws,x,y,hx,h=>by
  simp only[setL] at h
  split at h
  ·rename_i n hn
   exact setL_64 nm ws _ y (zj2q hx (Lib.atoiAll_bounds hn)) h
  ·cases h
theorem try_said {x y:In} {nm:List UInt8} {ws:List ByteArray} {s:List UInt8} (hx:in64 x) (h:tryL x nm ws s=some y):textL y=s∧in64 y:=by
 unfold tryL at h
 split at h
 ·split at h
  ·rename_i z hz
   split at h
   ·rename_i ht
    injection h with h; subst h
    exact⟨ht,setL_64 _ _ _ _ hx hz⟩
   ·cases h
  ·cases h
 ·cases h
theorem op_64 {op:Int} (h:is64 op):in64 (opI op):=⟨h,by simp[opI,is64],by simp[opI,is64],by simp[opI,is64],by simp[opI,is64]⟩
theorem zj3l {s:List UInt8} {y:In}:∀ (n:Nat) (op:Int),0≤op→op+n≤100→findL s n op=some y→textL y=s∧in64 y
 | 0,op,_,_,h=>by simp[findL] at h
 | n+1,op,h0,h1,h=>by
  simp only[findL] at h
  split at h
  ·split at h
   ·rename_i z hz
    injection h with h; subst h
    exact try_said (op_64 ⟨by omega,by omega⟩) hz
   ·exact zj3l n (op+1) (by omega) (by omega) h
  ·exact zj3l n (op+1) (by omega) (by omega) h
theorem parse_said {s:List UInt8} {y:In} (h:parseL s=some y):textL y=s∧in64 y:=by
 unfold parseL at h
 split at h
 ·exact try_said (op_64 (op:=0) ⟨by omega,by omega⟩) h
 ·exact zj3l 19 0 (by omega) (by omega) h
theorem setL_text {x:In} (hx:in64 x):∀ (nm:List UInt8) (z:In),setL z nm ((nm.map fun c=>Lib.itoa (fld x c.toNat)).map fun p=>(⟨⟨p⟩⟩:ByteArray))=some (setN x z nm)
 | [],z=>rfl
 | c :: nm,z=>by
  have h:=fld64 hx c.toNat
  simp only[List.map_cons,setL,setN]
  rw[Il.atoi_itoa h.1 h.2]
  exact setL_text hx nm _
theorem argL_jn (w:List UInt8) (x:In) (nm:List UInt8):w++argL x nm=Il.jn w (nm.map fun c=>Lib.itoa (fld x c.toNat)):=by
 unfold argL Il.jn
 rw[List.flatMap_map]
theorem ws_text (w:List UInt8) (hw:Il.no32 w) (x:In) (nm:List UInt8):wsL (w++argL x nm)=(⟨⟨w⟩⟩:ByteArray) :: (nm.map fun c=>Lib.itoa (fld x c.toNat)).map fun p=>(⟨⟨p⟩⟩:ByteArray):=by
 rw[argL_jn]
 have:=Il.words_jn (nm.map fun c=>Lib.itoa (fld x c.toNat)) w hw (fun p hp=>by
  obtain⟨c,_,rfl⟩:=List.mem_map.1 hp
  exact Il.itoa_no32 _)
 exact this
theorem try_text {x:In} (hx:in64 x) (w:List UInt8) (hw:Il.no32 w) (z:In) (nm:List UInt8) (hs:textL x=w++argL x nm) (hz:setN x z nm=x):tryL z nm (wsL (textL x)) (textL x)=some x:=by
 unfold tryL
 rw[hs,ws_text w hw,if_pos (by simp)]
 simp only[List.drop_succ_cons,List.drop_zero]
 rw[setL_text hx,hz]
 simp only
 rw[if_pos hs]
theorem w0_text (w:List UInt8) (hw:Il.no32 w) (x:In) (nm:List UInt8):w0L (w++argL x nm)=w:=by
 unfold w0L; rw[ws_text w hw]; rfl
theorem wds_no32:∀ w ∈ wds,Il.no32 w:=by unfold Il.no32; decide
theorem wd_no32 (op:Int):Il.no32 (wdL op):=by
 unfold wdL
 rw[List.getD_eq_getElem?_getD]
 cases e:wds[op.toNat]? with
 | none=>intro c hc; simp at hc
 | some v=>exact wds_no32 v (List.mem_of_getElem? e)
theorem wd_inj {j:Nat} {op:Int} (ho:isOp op=true) (hj:1≤j) (hj2:(j:Int) < op):wdL j ≠ wdL op:=by
 have hr:1≤op∧op≤18:=by rw[isOp,Bool.and_eq_true] at ho; exact⟨of_decide_eq_true ho.1,of_decide_eq_true ho.2⟩
 obtain⟨k,rfl⟩:∃ k:Nat,op=k:=⟨op.toNat,by omega⟩
 have h:∀ (j k:Fin 19),1≤j.val→j.val < k.val→wdL (j.val:Int) ≠ wdL (k.val:Int):=by decide +kernel
 exact h ⟨j,by omega⟩ ⟨k,by omega⟩ hj (by simpa using hj2)
theorem find_text {s:List UInt8} {op:Int} (ho:isOp op=true) {x:In} (hw:w0L s=wdL op) (ht:tryL (opI op) (nmL op) (wsL s) s=some x):∀ (n j:Nat),n+j=19→(j:Int)≤op→findL s n (j:Int)=some x
 | 0,j,h,hj=>by
  have hr:op≤18:=by rw[isOp,Bool.and_eq_true] at ho; exact of_decide_eq_true ho.2
  omega
 | n+1,j,h,hj=>by
  have hr:1≤op∧op≤18:=by rw[isOp,Bool.and_eq_true] at ho; exact⟨of_decide_eq_true ho.1,of_decide_eq_true ho.2⟩
  simp only[findL]
  by_cases he:(j:Int)=op
  ·rw[he,if_pos ⟨hr.1,hw.symm⟩,ht]
  ·rw[if_neg]
   ·have:=find_text ho hw ht n (j+1) (by omega) (by omega)
    rw[show ((j+1:Nat):Int)=(j:Int)+1 by omega] at this
    exact this
   ·rintro ⟨k1,k2⟩
    exact wd_inj ho (j:=j) (by omega) (by omega) (by rw[k2,hw])
theorem wd_raw {op:Int} (ho:isOp op=true):wdL op ≠ rawW:=by
 rcases zj0w ho with h | h | h | h | h | h | h | h | h | h | h | h | h | h | h | h | h | h <;> subst h <;> decide
theorem set_plain {x:In} (hp:plainB x=true):setN x (opI x.op) (nmL x.op)=x:=by
 obtain⟨op,a,b,c,imm⟩:=x
 have hl:legalB ⟨op,a,b,c,imm⟩=true:=by rw[plainB,Bool.and_eq_true] at hp; exact hp.1
 have hop:isOp op=true:=by
  simp only[legalB,Bool.and_eq_true] at hl
  exact hl.1.1.1
 simp only[plainB,Bool.and_eq_true,ok1,Bool.or_eq_true,beq_iff_eq] at hp
 obtain⟨_,⟨⟨⟨h1,h2⟩,h3⟩,h4⟩⟩:=hp
 rcases zj0w hop with h | h | h | h | h | h | h | h | h | h | h | h | h | h | h | h | h | h <;> subst h
 all_goals
  simp[hasL,nmL,Lib.indexByte,fld] at h1 h2 h3 h4
  simp[setN,nmL,setF,fld,opI, *]
theorem set_raw (x:In):setN x zeroI rawN=x:=by
 obtain⟨op,a,b,c,imm⟩:=x
 rfl
theorem zj4a {x:In} (hx:in64 x):parseL (textL x)=some x:=by
 cases hp:plainB x with
 | true =>
  have hl:legalB x=true:=by rw[plainB,Bool.and_eq_true] at hp; exact hp.1
  have hop:isOp x.op=true:=by
   simp only[legalB,Bool.and_eq_true] at hl
   exact hl.1.1.1
  have hs:textL x=wdL x.op++argL x (nmL x.op):=by rw[textL,if_pos hp]
  have hw:w0L (textL x)=wdL x.op:=by rw[hs,w0_text _ (wd_no32 _)]
  have ht:=try_text hx (wdL x.op) (wd_no32 _) (opI x.op) (nmL x.op) hs (set_plain hp)
  have hr:1≤x.op:=by rw[isOp,Bool.and_eq_true] at hop; exact of_decide_eq_true hop.1
  unfold parseL
  rw[if_neg (by rw[hw]; exact wd_raw hop)]
  exact find_text hop hw ht 19 0 rfl (by omega)
 | false =>
  have hs:textL x=rawW++argL x rawN:=by rw[textL,if_neg (by rw[hp]; decide)]
  have hn:Il.no32 rawW:=by unfold Il.no32; decide
  have hw:w0L (textL x)=rawW:=by rw[hs,w0_text _ hn]
  unfold parseL
  rw[if_pos hw]
  exact try_text hx rawW hn zeroI rawN hs (set_raw x)
end Go.Bk
namespace Go.Il
open Go Go.Lib
def spl (acc:List UInt8):List UInt8→List (List UInt8)
 | []=>[acc]
 | c :: r=>if c=32 then acc :: spl [] r else spl (acc++[c]) r
theorem spl_jn:∀ (s acc:List UInt8),no32 acc→∃ w ps,acc++s=jn w ps∧spl acc s=w :: ps∧no32 w∧∀ p ∈ ps,no32 p
 | [],acc,h=>⟨acc,[],by simp[jn],rfl,h,by simp⟩
 | c :: r,acc,h=>by
  by_cases hc:c=32
  ·subst hc
   obtain⟨w,ps,h1,h2,h3,h4⟩:=spl_jn r [] (by intro c hc; simp at hc)
   refine⟨acc,w :: ps,?_,?_,h,?_⟩
   ·rw[zj2i,← h1]; rfl
   ·rw[spl,if_pos rfl,h2]
   ·intro p hp
    rcases List.mem_cons.1 hp with rfl | hp
    ·exact h3
    ·exact h4 p hp
  ·obtain⟨w,ps,h1,h2,h3,h4⟩:=spl_jn r (acc++[c]) (by
    intro d hd
    rcases List.mem_append.1 hd with hd | hd
    ·exact h d hd
    ·rw[List.mem_singleton.1 hd]; exact hc)
   refine⟨w,ps,?_,?_,h3,h4⟩
   ·rw[← h1]; simp
   ·rw[spl,if_neg hc,h2]
theorem split_spl (s:List UInt8):splitB sp 0 (countB ⟨⟨s⟩⟩ sp) ⟨⟨s⟩⟩=(spl [] s).map fun p=>⟨⟨p⟩⟩:=by
 obtain⟨w,ps,h1,h2,h3,h4⟩:=spl_jn s [] (by intro c hc; simp at hc)
 rw[List.nil_append] at h1
 rw[h2,h1,words_jn ps w h3 h4]
theorem pu_ge:∀ (l:List UInt8) (acc u:Nat),parseUint10 acc l=.ok u→acc≤u
 | [],acc,u,h=>by simp only[parseUint10] at h; injection h with h; omega
 | c :: r,acc,u,h=>by
  simp only[parseUint10] at h
  split at h
  ·split at h
   ·cases h
   ·split at h
    ·cases h
    ·have:=pu_ge r _ u h; omega
  ·cases h
theorem pu_step {c:UInt8} {r:List UInt8} {acc u:Nat} (h:parseUint10 acc (c :: r)=.ok u):48≤c.toNat∧c.toNat≤57∧parseUint10 (acc*10+(c.toNat - 48)) r=.ok u∧acc*10+(c.toNat - 48)≤u:=by
 simp only[parseUint10] at h
 split at h
 ·rename_i hd
  split at h
  ·cases h
  ·split at h
   ·cases h
   ·exact⟨hd.1,hd.2,h,pu_ge r _ u h⟩
 ·cases h
theorem head_neg {m:Int} {s:List UInt8} (h:itoa m=s):(s.head? = some 45 ↔ m < 0)∧s ≠ []:=by
 subst h
 unfold itoa
 split
 ·rename_i hm; exact⟨by simp[hm],by simp⟩
 ·rename_i hm
  refine⟨⟨fun hh=>?_,fun hh=>absurd hh hm⟩,dec_ne _⟩
  cases e:decDigits m.toNat with
  | nil=>exact absurd e (dec_ne _)
  | cons c r =>
   have hd:=dec_digit m.toNat c (by rw[e]; simp)
   rw[e] at hh; simp at hh; subst hh
   exact absurd hd.1 (by decide)
theorem start_neg {m:Int} {s:List UInt8} (h0 : -9223372036854775808≤m) (h1:m≤9223372036854775807) (h:itoa m=s) (hs:s.head? = some 45):parseUint10 0 (s.drop 1)=.ok m.natAbs:=by
 have hm:=(head_neg h).1.1 hs
 subst h
 unfold itoa
 rw[if_pos hm]
 exact pu_dec _ (by omega)
theorem start_pos {m:Int} {s:List UInt8} (h0 : -9223372036854775808≤m) (h1:m≤9223372036854775807) (h:itoa m=s) (hs:s.head? ≠ some 45):parseUint10 0 s=.ok m.natAbs:=by
 have hm:¬ m < 0:=fun k=>hs ((head_neg h).1.2 k)
 subst h
 unfold itoa
 rw[if_neg hm,show m.toNat=m.natAbs by omega]
 exact pu_dec _ (by omega)
end Go.Il
