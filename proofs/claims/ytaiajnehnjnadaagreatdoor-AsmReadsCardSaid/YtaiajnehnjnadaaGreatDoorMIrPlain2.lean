/- The plain law: what the document reads a line as is what isa does. -/
import Derived.Test.YtaiajnehnjnadaaGreatDoorIlPlain
import Derived.Test.YtaiajnehnjnadaaGreatDoorMIrLaw4
import Derived.Test.YtaiajnehnjnadaaGreatDoorMAIlLaw4
set_option linter.unusedSimpArgs false
set_option linter.unusedVariables false
set_option linter.unnecessarySimpa false
namespace Go.Proofs.YtaiajnehnjnadaaGreatDoor
open Go Go.Sx Go.Isa Go.Bk
set_option maxRecDepth 100000
theorem parse_none {s:List UInt8} (h:∀ y,in64 y→textL y ≠ s):parseL s=none:=by
 cases e:parseL s with
 | none=>rfl
 | some y=>exact absurd (parse_said e).1 (h y (parse_said e).2)
theorem text_len2 {x:In} (h:in64 x):(textL x).length≤115:=by
 unfold textL
 have h1:=wd_len x.op
 have h2:=(nm_ok x.op).1
 have h3:=zj3n h (nmL x.op)
 have h4:=zj3n h rawN
 split
 ·rw[List.length_append]; omega
 ·rw[List.length_append]
  have e1:rawN.length=5:=rfl
  have e2:rawW.length=3:=rfl
  omega
theorem spl_ws (s:List UInt8):wsL s=(Il.spl [] s).map fun p=>(⟨⟨p⟩⟩:ByteArray):=Il.split_spl s
theorem spl_len {s w0:List UInt8} {ps:List (List UInt8)} (h:Il.spl [] s=w0 :: ps):ps.length≤s.length:=by
 have:=ws_le s
 rw[spl_ws,h] at this
 simp at this; exact this
theorem spl_piece {s w0:List UInt8} {ps:List (List UInt8)} (h:Il.spl [] s=w0 :: ps) {k:Nat} {p:List UInt8} (hk:ps[k]? = some p):p.length≤s.length:=by
 have:=ws_piece s ⟨⟨p⟩⟩ (by rw[spl_ws,h]; exact List.mem_map.2 ⟨p,List.mem_cons_of_mem _ (List.mem_of_getElem? hk),rfl⟩)
 rw[zj02] at this; exact this
theorem itoa_inj {n m:Int} (hn:is64 n) (hm:is64 m) (h:Lib.itoa n=Lib.itoa m):n=m:=by
 have h1:=Il.atoi_itoa hn.1 hn.2
 rw[h,Il.atoi_itoa hm.1 hm.2] at h1
 injection h1 with h1; exact h1.symm
theorem said {s:List UInt8} {y:In} (hy:in64 y) (h:textL y=s) :
  Il.spl [] s=(if plainB y then wdL y.op else rawW) :: ((if plainB y then nmL y.op else rawN).map fun c=>Lib.itoa (fld y c.toNat)):=by
 have e:=Il.split_spl s
 have key:∀ (w:List UInt8) (nm:List UInt8),Il.no32 w→textL y=w++argL y nm→Il.spl [] s=w :: (nm.map fun c=>Lib.itoa (fld y c.toNat)):=by
  intro w nm hw ht
  have h1:=ws_text w hw y nm
  rw[← ht,h] at h1
  unfold wsL at h1
  have h2:=e.symm.trans h1
  have:∀ (a b:List (List UInt8)),a.map (fun p=>(⟨⟨p⟩⟩:ByteArray))=b.map (fun p=>(⟨⟨p⟩⟩:ByteArray))→a=b:=by
   intro a
   induction a with
   | nil=>intro b hb; cases b <;> simp at hb ⊢
   | cons x a ih =>
    intro b hb
    cases b with
    | nil=>simp at hb
    | cons z b=>simp at hb; rw[hb.1,ih b (by simpa using hb.2)]
  exact this _ _ (by simpa using h2)
 cases hp:plainB y with
 | true=>simpa using key (wdL y.op) (nmL y.op) (wd_no32 _) (by rw[textL,if_pos hp])
 | false=>simpa using key rawW rawN (by unfold Il.no32; decide) (by rw[textL,if_neg (by rw[hp]; decide)])
def gs (op:Int) (ns:List Int):In :=
 let kA:=if hasL op 65 then 1 else 0
 let kB:=kA+if hasL op 66 then 1 else 0
 let kC:=kB+if hasL op 67 then 1 else 0
 { op:=op,a:=if hasL op 65 then ns.getD 0 0 else 0,b:=if hasL op 66 then ns.getD kA 0 else 0,c:=if hasL op 67 then ns.getD kB 0 else 0,imm:=if hasL op 73 then ns.getD kC 0 else 0 }
theorem no_num {s w0:List UInt8} {ps:List (List UInt8)} {k:Nat} {p:List UInt8} (hW:Il.spl [] s=w0 :: ps) (hk:ps[k]? = some p) (hb:∀ m,is64 m→Lib.itoa m ≠ p):∀ y,in64 y→textL y ≠ s:=by
 intro y hy h
 have h1:=said hy h
 rw[hW] at h1
 injection h1 with _ h2
 rw[h2,List.getElem?_map] at hk
 cases e:(if plainB y then nmL y.op else rawN)[k]? with
 | none=>rw[e] at hk; simp at hk
 | some c =>
  rw[e] at hk
  simp only[Option.map_some,Option.some.injEq] at hk
  exact hb _ (fld64 hy _) hk
theorem map_inj:∀ (ns ms:List Int),(∀ n ∈ ns,is64 n)→(∀ m ∈ ms,is64 m)→ns.map Lib.itoa=ms.map Lib.itoa→ns=ms
 | [],[],_,_,_=>rfl
 | [],m :: ms,_,_,h=>by simp at h
 | n :: ns,[],_,_,h=>by simp at h
 | n :: ns,m :: ms,hn,hm,h=>by
  simp only[List.map_cons,List.cons.injEq] at h
  rw[itoa_inj (hn n (by simp)) (hm m (by simp)) h.1,map_inj ns ms (fun x hx=>hn x (by simp[hx])) (fun x hx=>hm x (by simp[hx])) h.2]
theorem nums_of {s w0:List UInt8} {ns:List Int} {y:In} (hW:Il.spl [] s=w0 :: ns.map Lib.itoa) (hn:∀ n ∈ ns,is64 n) (hy:in64 y) (h:textL y=s) :
  w0=(if plainB y then wdL y.op else rawW)∧ns=(if plainB y then nmL y.op else rawN).map fun c=>fld y c.toNat:=by
 have h1:=said hy h
 rw[hW] at h1
 injection h1 with h0 h2
 refine⟨h0,map_inj _ _ hn (fun m hm=>?_) ?_⟩
 ·obtain⟨c,_,rfl⟩:=List.mem_map.1 hm
  exact fld64 hy _
 ·rw[h2,List.map_map]; rfl
theorem raw_of {s w0:List UInt8} {ns:List Int} {y:In} (hW:Il.spl [] s=w0 :: ns.map Lib.itoa) (hn:∀ n ∈ ns,is64 n) (hy:in64 y) (h:textL y=s) (hp:plainB y=false) :
  w0=rawW∧ns=[y.op,y.a,y.b,y.c,y.imm]:=by
 have:=nums_of hW hn hy h
 rw[hp] at this
 exact⟨this.1,this.2⟩
theorem zj3p {s w0:List UInt8} {ns:List Int} {y:In} (hW:Il.spl [] s=w0 :: ns.map Lib.itoa) (hn:∀ n ∈ ns,is64 n) (hy:in64 y) (h:textL y=s) (hp:plainB y=true) :
  w0=wdL y.op∧y=gs y.op ns∧isOp y.op=true:=by
 have h1:=nums_of hW hn hy h
 rw[hp] at h1
 have hl:legalB y=true:=by rw[plainB,Bool.and_eq_true] at hp; exact hp.1
 have hop:isOp y.op=true:=by
  simp only[legalB,Bool.and_eq_true] at hl
  exact hl.1.1.1
 refine⟨h1.1,?_,hop⟩
 have h2:=h1.2
 simp only[if_true] at h2
 obtain⟨⟨bA,bB,bC,bI⟩,hp',hA,hB,hC,hI,hn'⟩:=grp hop
 dsimp only at hA hB hC hI hn'
 simp only[plainB,ok1,hA,hB,hC,hI,Bool.and_eq_true,Bool.or_eq_true,fld] at hp
 simp only[List.mem_cons,Prod.mk.injEq,List.not_mem_nil,or_false] at hp'
 obtain⟨op,a,b,c,imm⟩:=y
 rcases hp' with⟨rfl,rfl,rfl,rfl⟩ | ⟨rfl,rfl,rfl,rfl⟩ | ⟨rfl,rfl,rfl,rfl⟩ | ⟨rfl,rfl,rfl,rfl⟩ | ⟨rfl,rfl,rfl,rfl⟩ | ⟨rfl,rfl,rfl,rfl⟩
 all_goals simp at hp
 all_goals simp only[hn'] at h2
 all_goals simp at h2
 all_goals subst h2
 all_goals unfold gs
 all_goals simp only[hA,hB,hC,hI]
 all_goals simp[hp,fld]
theorem getD64 {ns:List Int} (hn:∀ n ∈ ns,is64 n) (k:Nat):is64 (ns.getD k 0):=by
 rw[List.getD_eq_getElem?_getD]
 cases e:ns[k]? with
 | none=>exact⟨by simp,by simp⟩
 | some v=>exact hn v (List.mem_of_getElem? e)
theorem gs64 {op:Int} {ns:List Int} (ho:is64 op) (hn:∀ n ∈ ns,is64 n):in64 (gs op ns):=by
 have h0:is64 0:=⟨by omega,by omega⟩
 refine⟨ho,?_,?_,?_,?_⟩ <;> (unfold gs; dsimp only; split <;> first | exact getD64 hn _ | exact h0)
end Go.Proofs.YtaiajnehnjnadaaGreatDoor
