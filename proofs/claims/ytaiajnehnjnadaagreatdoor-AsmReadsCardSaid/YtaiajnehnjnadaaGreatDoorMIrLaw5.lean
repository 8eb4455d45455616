/- The walk: a line's words (shuntref10.words). -/
import Derived.Test.YtaiajnehnjnadaaGreatDoorIlPlain
import Derived.Test.YtaiajnehnjnadaaGreatDoorMIrLaw1
set_option linter.unusedSimpArgs false
set_option linter.unusedVariables false
set_option linter.unnecessarySimpa false
namespace Go.Proofs.YtaiajnehnjnadaaGreatDoor
open Go Go.Sx Go.Isa
open Nat (reduceAdd reduceLT)
set_option maxRecDepth 100000
structure WI where
 i:Nat
 A:Option Addr
 c:Nat
 out:List (List UInt8)
 wd:List UInt8
def strV (p:List UInt8):Value:=.string ⟨⟨p⟩⟩
structure WOk (s:List UInt8) (x:WI):Prop where
 le:x.i≤s.length
 lo:x.out.length≤x.i
 lw:x.wd.length≤x.i
 eq:Il.spl [] s=x.out++Il.spl x.wd (s.drop x.i)
theorem words38 (s:List UInt8) (w:World) (hs:s.length≤100000):CallsV Tryz.prog 36 [.string ⟨⟨s⟩⟩] w fun v w'=>World.ownsB w' w.heap.size 9 1 v (Il.spl [] s).length ((Il.spl [] s).map strV)∧Fresh w w':=by
 refine zj05 (keep:=K36) (nt:=31) (svs:=[.val (.string ⟨⟨s⟩⟩)]) Tryz.func36 x36 n36 (by simp) (by simp[IsL,Is]) fun R hR=>?_
 (refine Y_go 600 ?_; dsimp only[go_sem,reduceAdd,Nat.reduceBEq])
 refine zj09 (α:=WI) (fun x=>WOk s x) (fun _=>⟨w,w.heap.size,[],31,[]⟩)
   (fun x=>{ F:=[(0,.val (.string ⟨⟨s⟩⟩)),(3,.own 0 0),(4,.val (.string ⟨⟨x.wd⟩⟩)),(5,.val (.int .i64 x.i))],H:=[.own 9 0 1 x.A x.out.length x.c (x.out.map strV)] }) (fun x=>s.length - x.i) (fun _=>rfl) ?start ?round
 case start =>
  intro a W rep
  refine⟨⟨0,none,0,[],[]⟩,⟨Nat.zero_le _,Nat.zero_le _,Nat.zero_le _,by simp⟩,(rep.adopt 3 9 1 rfl).le ?_ ?_⟩ <;> (simp only[go_sem,lk,Nat.reduceBEq,reduceLT,reduceAdd] <;> try simp)
 case round =>
  rintro ⟨i,A,c,out,wd⟩ hx I hI
  obtain⟨hi,ho,hw,he⟩:=hx
  dsimp only at hi ho hw he
  (refine Y_go 600 ?_; dsimp only[go_sem,Nat.reduceBEq,Nat.reduceMul,reduceAdd])
  refine⟨fun hlt=>?_,fun hge=>?_⟩
  ·have hlt:i < s.length:=by have:=of_decide_eq_true hlt; first | (rw[zj02] at this; omega) | (simp[ByteArray.size] at this; omega)
   have hget:s[i]? = some s[i]:=List.getElem?_eq_getElem hlt
   have hdrop:s.drop i=s[i] :: s.drop (i+1):=List.drop_eq_getElem_cons hlt
   refine⟨by omega,s[i],?_,fun h32=>?_,fun h32=>?_⟩
   ·show (⟨s⟩:Array UInt8)[(i:Int).toNat]? = some s[i]
    simp[hlt]
   ·have hc:s[i]=32:=by have:=eq_of_beq h32; exact UInt8.toNat_inj.1 (by show s[i].toNat=32; omega)
    refine fun g=>⟨⟨by simp only[maxLen]; omega,by omega⟩,fun A1 c1=>⟨_,.add64 (by omega) (by omega),zj01 fun a W rep=>hI ⟨i+1,A1,c1,out++[wd],[]⟩ ⟨hlt,by simp; omega,Nat.zero_le _,?_⟩ (by show s.length - (i+1) < s.length - i; omega) a W (rep.res.le ?_ ?_)⟩⟩
    ·rw[he,hdrop,Il.spl,if_pos hc]; simp
    ·(simp only[go_sem,lk,Nat.reduceBEq,reduceLT,reduceAdd] <;> try simp)
    ·(simp only[go_sem,lk,Nat.reduceBEq,reduceLT,reduceAdd] <;> try simp)
     simp[strV]
   ·have hc:s[i] ≠ 32:=by
     intro hc; rw[hc] at h32; simp at h32
    have hex:(⟨⟨s⟩⟩:ByteArray).extract (i:Int).toNat ((i+1:Nat):Int).toNat=⟨⟨[s[i]]⟩⟩:=by
     apply Il.ba_eq
     rw[Lib.extract_data]
     show (s.drop (i:Int).toNat).take (((i+1:Nat):Int).toNat - (i:Int).toNat)=[s[i]]
     rw[show (i:Int).toNat=i by omega,show ((i+1:Nat):Int).toNat - i=1 by omega,hdrop]; rfl
    refine⟨((i+1:Nat):Int),.add64 (by omega) (by omega),⟨by omega,by omega,by first | (rw[zj02]; omega) | (simp[ByteArray.size]; omega)⟩,by rw[hex]; (first | (simp only[zj04,zj02,List.length_append,List.length_cons,List.length_nil]; omega) | (simp[ByteArray.size]; omega)),((i+1:Nat):Int),.add64 (by omega) (by omega),zj01 fun a W rep=>hI ⟨i+1,A,c,out,wd++[s[i]]⟩ ⟨hlt,by show out.length≤i+1; omega,by simp; omega,?_⟩ (by show s.length - (i+1) < s.length - i; omega) a W ?_⟩
    ·rw[he,hdrop,Il.spl,if_neg hc]
    ·rw[hex,zj04] at rep
     exact rep.lq
  ·have hil:i=s.length:=by have:=of_decide_eq_false hge; first | (rw[zj02] at this; omega) | (simp[ByteArray.size] at this; omega)
   subst hil
   rw[List.drop_length] at he
   refine fun g=>⟨⟨by simp only[maxLen]; omega,by omega⟩,fun A1 c1=>zj03 (vs:=[.slice A1 _ c1]) r36 rfl rfl fun W hW=>hR _ _ ⟨?_,hW.fresh'⟩⟩
   have h1:=hW.owns (i:=0) rfl
   rw[he]
   show World.ownsB W w.heap.size 9 1 (.slice A1 (out.length+1) c1) (out++[wd]).length ((out++[wd]).map strV)
   simpa [strV] using h1
theorem zj4w {E:Env} {F:List (Nat × SV)} {H:List SO} {a:Act} {W:World} (d:Nat) {x y:SV} (rep:Rep E { F:=F,H:=H } a W) (hl:lk F d=x) (h:∀ v,Is H x v→Is H y v):Rep E { F:=(d,y) :: F,H:=H } a W:=by
 refine⟨rep.size,fun d'=>?_,rep.defers,rep.heap⟩
 have h1:=rep.frame d'
 cases e:d == d' with
 | true =>
  have:=eq_of_beq e
  subst this
  simp only[lk,e]
  simp only[hl] at h1
  exact h _ h1
 | false =>
  simp only[lk,e]
  exact h1
def endOps:List XS:=match T37n8 with | .seq (.ops l) _=>l.drop 2 | _=>[]
structure NI where
 n:Int
 i:Nat
structure NOk (s:List UInt8) (x:NI):Prop where
 le:x.i≤s.length
 lo : -9223372036854775808≤x.n
 hi:x.n≤0
 ok:∀ m,is64 m→Lib.itoa m=s→Lib.parseUint10 x.n.natAbs (s.drop x.i)=.ok m.natAbs
theorem number39 (s:List UInt8) (w:World) (hs:s.length≤100000):CallsV Tryz.prog 37 [.string ⟨⟨s⟩⟩] w fun v w'=>(∃ n b,v=.tuple #[.int .i64 n,.bool b]∧is64 n∧(b=true→Lib.itoa n=s)∧∀ m,is64 m→Lib.itoa m=s→b=true)∧Fresh w w':=by
 refine zj05 (keep:=K37) (nt:=61) (svs:=[.val (.string ⟨⟨s⟩⟩)]) Tryz.func37 x37 n37 (by simp) (by simp[IsL,Is]) fun R hR=>?_
 (refine Y_go 600 ?_; dsimp only[go_sem,Nat.reduceAdd,Nat.reduceBEq,Int.reduceToNat])
 have bad:(∀ m,is64 m→¬ Lib.itoa m=s)→∀ F H,denAll H F [2,3]=some [.int .i64 0,.bool false]→RetG (cxOf Tryz.prog Tryz.f37 K37 T37 R) ⟨w,w.heap.size,[],61,[]⟩ { F:=F,H:=H }:=fun hk F H hd =>
  zj03 r37 rfl hd fun W hW=>hR _ _ ⟨⟨0,false,rfl,⟨by omega,by omega⟩,by simp,fun m h64 hm=>absurd hm (hk m h64)⟩,hW.fresh'⟩
 have key:∀ (b:Bool) (at0:Nat) (F0:List (Nat × SV)),at0≤s.length→(b=true ↔ s.head? = some 45)→(∀ m,is64 m→Lib.itoa m=s→Lib.parseUint10 0 (s.drop at0)=.ok m.natAbs) →
   (∀ a W,Rep ⟨w,w.heap.size,[],61,[]⟩ { F:=F0,H:=[] } a W→Rep ⟨w,w.heap.size,[],61,[]⟩ { F:=[(0,.val (.string ⟨⟨s⟩⟩)),(2,.val (.int .i64 0)),(3,.bf),(4,.val (.int .i64 0)),(5,.val (.bool b)),(7,.val (.int .i64 at0))],H:=[] } a W) →
   G (cxOf Tryz.prog Tryz.f37 K37 T37 R) ⟨w,w.heap.size,[],61,[]⟩ [.code (.loop (.ref 6)),.blk 0,.code (.ref 9)] { F:=F0,H:=[] }:=by
  intro b at0 F0 ha hb hst hle
  refine zj09 (α:=NI) (fun x=>NOk s x) (fun _=>⟨w,w.heap.size,[],61,[]⟩)
   (fun x=>{ F:=[(0,.val (.string ⟨⟨s⟩⟩)),(2,.val (.int .i64 0)),(3,.bf),(4,.val (.int .i64 x.n)),(5,.val (.bool b)),(7,.val (.int .i64 x.i))],H:=[] }) (fun x=>s.length - x.i) (fun _=>rfl) ?start ?round
  case start =>
   intro a W rep
   exact⟨⟨0,at0⟩,⟨ha,by show (-9223372036854775808:Int)≤0; omega,Int.le_refl _,hst⟩,hle a W rep⟩
  case round =>
   rintro ⟨n,i⟩ hx I hI
   obtain⟨hi,hlo,hhi,hok⟩:=hx
   dsimp only at hi hlo hhi hok
   (refine Y_go 600 ?_; dsimp only[go_sem,Nat.reduceBEq])
   refine⟨fun hlt=>?_,fun hge=>?_⟩
   ·have hlt:i < s.length:=by have:=of_decide_eq_true hlt; first | (rw[zj02] at this; omega) | (simp[ByteArray.size] at this; omega)
    have hdrop:s.drop i=s[i] :: s.drop (i+1):=List.drop_eq_getElem_cons hlt
    have c255:s[i].toNat < 256:=s[i].toNat_lt
    have hk:∀ m,is64 m→Lib.itoa m=s→48≤s[i].toNat∧s[i].toNat≤57∧Lib.parseUint10 (n.natAbs*10+(s[i].toNat - 48)) (s.drop (i+1))=.ok m.natAbs∧n.natAbs*10+(s[i].toNat - 48)≤m.natAbs:=by
     intro m h64 hm
     have:=hok m h64 hm
     rw[hdrop] at this
     exact Il.pu_step this
    have no:(s[i].toNat < 48∨57 < s[i].toNat∨n < -922337203685477580∨n = -922337203685477580∧56 < s[i].toNat)→∀ m,is64 m→¬ Lib.itoa m=s:=by
     intro h m h64 hm
     obtain⟨h1,h2,_,h3⟩:=hk m h64 hm
     unfold is64 at h64
     omega
    have go:48≤s[i].toNat→s[i].toNat≤57 → -922337203685477580≤n→(n = -922337203685477580→s[i].toNat≤56)→NOk s ⟨10*n - ((s[i].toNat:Int) - 48),i+1⟩:=by
     intro h1 h2 h3 h4
     refine⟨hlt,by show -9223372036854775808≤10*n - ((s[i].toNat:Int) - 48); omega,by show 10*n - ((s[i].toNat:Int) - 48)≤0; omega,fun m h64 hm=>?_⟩
     obtain⟨_,_,h5,_⟩:=hk m h64 hm
     rw[show (10*n - ((s[i].toNat:Int) - 48)).natAbs=n.natAbs*10+(s[i].toNat - 48) by omega]
     exact h5
    have fin:48≤s[i].toNat→s[i].toNat≤57 → -922337203685477580≤n→(n = -922337203685477580→s[i].toNat≤56)→∀ (F:List (Nat × SV)),(∀ a W,Rep ⟨w,w.heap.size,[],61,[]⟩ { F:=F,H:=[] } a W→Rep ⟨w,w.heap.size,[],61,[]⟩ { F:=[(0,.val (.string ⟨⟨s⟩⟩)),(2,.val (.int .i64 0)),(3,.bf),(4,.val (.int .i64 (10*n - ((s[i].toNat:Int) - 48)))),(5,.val (.bool b)),(7,.val (.int .i64 (i+1:Nat)))],H:=[] } a W)→G (cxOf Tryz.prog Tryz.f37 K37 T37 R) ⟨w,w.heap.size,[],61,[]⟩ [.lend I,.blk 0,.code (.ref 9)] { F:=F,H:=[] } :=
     fun h1 h2 h3 h4 F hF=>zj01 fun a W rep=>hI ⟨_,i+1⟩ (go h1 h2 h3 h4) (by show s.length - (i+1) < s.length - i; omega) a W (hF a W rep)
    refine⟨by omega,s[i],by show (⟨s⟩:Array UInt8)[(i:Int).toNat]? = some s[i]; simp[hlt],(s[i].toNat:Int),.i64 (by omega) (by omega),(s[i].toNat:Int) - 48,.sub64 (by omega) (by omega),fun e=>bad (no (by have:=of_decide_eq_true e; omega)) _ _ rfl,fun e=>⟨fun e1=>bad (no (by have:=of_decide_eq_true e1; omega)) _ _ rfl,fun e1=>⟨fun e2=>bad (no (by have:=of_decide_eq_true e2; omega)) _ _ rfl,fun e2=>?_⟩⟩⟩
    have e:=of_decide_eq_false e
    have e1:=of_decide_eq_false e1
    have e2:=of_decide_eq_false e2
    refine⟨fun e3=>⟨fun e4=>bad (no (by have:=of_decide_eq_true e4; have:=eq_of_beq e3; omega)) _ _ rfl,fun e4=>?_⟩,fun e3=>?_⟩
    ·have e4:=of_decide_eq_false e4
     refine⟨_,.mul64 (by omega) (by omega),_,.sub64 (by omega) (by omega),((i+1:Nat):Int),.add64 (by omega) (by omega),fin (by omega) (by omega) (by omega) (by omega) _ fun a W rep=>rep.lq⟩
    ·have e3:n ≠ -922337203685477580:=by intro h; rw[h] at e3; simp at e3
     refine⟨_,.mul64 (by omega) (by omega),_,.sub64 (by omega) (by omega),((i+1:Nat):Int),.add64 (by omega) (by omega),fin (by omega) (by omega) (by omega) (by omega) _ fun a W rep=>rep.lq⟩
   ·have hil:i=s.length:=by have:=of_decide_eq_false hge; first | (rw[zj02] at this; omega) | (simp[ByteArray.size] at this; omega)
    subst hil
    have habs:∀ m,is64 m→Lib.itoa m=s→n.natAbs=m.natAbs:=by
     intro m h64 hm
     have:=hok m h64 hm
     rw[List.drop_length] at this
     simp only[Lib.parseUint10] at this
     injection this
    have out:∀ r:Int,is64 r→(∀ m,is64 m→Lib.itoa m=s→r=m)→G (cxOf Tryz.prog Tryz.f37 K37 T37 R) ⟨w,w.heap.size,[],61,[]⟩ [.ops endOps,.code .ret] { F:=[(57,.val (.int .i64 r)),(56,.val (.int .i64 r)),(0,.val (.string ⟨⟨s⟩⟩))],H:=[] }:=by
     intro r h64 hm
     unfold endOps
     dsimp only[T37n8,List.drop]
     refine zj00 (vs:=[.int .i64 r]) rfl (fun W hW=>zj0d r W h64.1 h64.2) fun v hv=>⟨.val (.string ⟨⟨Lib.itoa r⟩⟩),by rw[hv]; simp[Is],?_⟩
     (refine Y_go 600 ?_; dsimp only[go_sem,Nat.reduceBEq])
     refine zj03 (vs:=[_,_]) r37 rfl rfl fun W hW=>hR _ _ ⟨⟨r,strB .eql ⟨⟨Lib.itoa r⟩⟩ ⟨⟨s⟩⟩,rfl,h64,fun e=>?_,fun m h1 h2=>?_⟩,hW.fresh'⟩
     ·have e1:(decide (Lib.itoa r=s))=true:=by rw[← e]; exact (strEq _ _).symm
      exact of_decide_eq_true e1
     ·rw[strEq]; exact decide_eq_true (by rw[hm m h1 h2]; exact h2)
    have hnb:∀ m,is64 m→Lib.itoa m=s→(b=true ↔ m < 0):=fun m h1 h2=>hb.trans (Il.head_neg h2).1
    refine⟨fun e=>?_,fun e=>?_⟩
    ·have hbf:b=false:=by cases b <;> simp_all
     by_cases h63:n = -9223372036854775808
     ·refine⟨-9223372036854775808,by show _=IntKind.wrap .i64 _; rw[IntKind.wrap_i64,h63]; decide,fun a W rep=>out (-9223372036854775808) ⟨by omega,by omega⟩ (fun m h1 h2=>?_) a W (rep.lq)⟩
      have h3:=habs m h1 h2
      have h4:=hnb m h1 h2
      rw[hbf] at h4
      have:¬ m < 0:=fun k=>by simpa using h4.2 k
      unfold is64 at h1
      omega
     ·refine⟨0 - n,.i64 (by omega) (by omega),fun a W rep=>out (0 - n) ⟨by omega,by omega⟩ (fun m h1 h2=>?_) a W (rep.lq)⟩
      have h3:=habs m h1 h2
      have h4:=hnb m h1 h2
      rw[hbf] at h4
      have:¬ m < 0:=fun k=>by simpa using h4.2 k
      omega
    ·have hbt:b=true:=by cases b <;> simp_all
     refine fun a W rep=>out n ⟨by omega,by omega⟩ (fun m h1 h2=>?_) a W (rep.lq)
     have h3:=habs m h1 h2
     have h4:=(hnb m h1 h2).1 hbt
     omega
 refine⟨fun h0=>?_,fun h0=>?_⟩
 ·cases s with
  | nil=>simp[zj02] at h0
  | cons c r =>
   refine⟨by omega,c,rfl,fun e=>?_,fun e=>?_⟩
   ·have hc:c=45:=by have:=eq_of_beq e; exact UInt8.toNat_inj.1 (by show c.toNat=45; omega)
    rw[e]
    exact key true 1 _ (by simp) (by simp[hc]) (fun m h64 hm=>Il.start_neg h64.1 h64.2 hm (by simp[hc])) fun a W rep=>rep.lq
   ·have hc:c ≠ 45:=by intro hc; rw[hc] at e; simp at e
    rw[e]
    exact key false 0 _ (by simp) (by simp[hc]) (fun m h64 hm=>Il.start_pos h64.1 h64.2 hm (by simp[hc])) fun a W rep=>rep.lq
 ·cases s with
  | cons c r=>simp[zj02] at h0
  | nil=>exact key false 0 _ (by simp) (by simp) (fun m h64 hm=>absurd rfl (Il.head_neg hm).2) fun a W rep=>(zj4w 5 (y:=.val (.bool false)) rep (x:=.bf) rfl (fun v h=>by simpa [Is] using h)).lq
end Go.Proofs.YtaiajnehnjnadaaGreatDoor
