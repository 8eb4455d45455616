/- A package variable that is listed with plain data (numbers, strings, bools in arrays and structs): its cells in the world. -/
import Derived.ProofKit
import Derived.OpenShut
import Derived.FnData
import Derived.LaidSub
import Derived.MakeChecks
import Derived.KernelRfl
import Derived.Lay
import Derived.WideShapes
import Derived.Below
import Derived.Carry
import Derived.ChangeSame
import Derived.Deep.Slices
import Derived.Deep.Fields
import Derived.Test.YtgghmmjoplddbaaGreatDoorSxLib
set_option linter.unusedSimpArgs false
set_option linter.unusedVariables false
set_option linter.unnecessarySimpa false
namespace Go.Dk
open Go

mutual
def flatD {H:Type}:DataW H→Option (List Value)
  | .lit (.int k n)=>some [.int k n]
  | .lit (.bool b)=>some [.bool b]
  | .lit (.string s)=>some [.string ⟨⟨s⟩⟩]
  | .agg l=>flatL l
  | _=>none
def flatL {H:Type}:List (DataW H)→Option (List Value)
  | []=>some []
  | d :: l=>match flatD d,flatL l with
    | some a,some b=>some (a++b)
    | _,_=>none
end
def contig (P:Program):List Field→Nat→Nat→Bool
  | [],off,n=>off == n
  | f :: fs,off,n=>f.offset == off && contig P fs (off+P.cellsOf f.type) n
def plainT (P:Program):Nat→TypeId→Bool
  | 0,_=>false
  | k+1,t=>match P.underlying t with
    | some (.int _)=>true
    | some .bool=>true
    | some .string=>true
    | some (.array n e)=>plainT P k e && (P.cellsOf t == n*P.cellsOf e)
    | some (.struct fs)=>fs.all (fun f=>plainT P k f.type) && contig P fs.toList 0 (P.cellsOf t)
    | _=>false

section
variable {H:Type} {enc:TypeId × Value→H} {P:Program} {w:World} {base:Nat} {spare:Nat→Bool} {held:Bool}

theorem arr_cells {c:Nat}:∀ (xs:List (DataW H × List MemPlace)) (cs L:List Value),cs.length=xs.length*c→(∀ (i:Nat) x l,xs[i]? = some x→flatD x.1=some l→(cs.drop (i*c)).take c=l)→flatL (xs.map (·.1))=some L→cs=L
  | [],cs,L,hl,_,h=>by
    simp[flatL] at h; subst h
    simpa using hl
  | x :: xs,cs,L,hl,hx,h=>by
    simp only[List.map_cons,flatL] at h
    split at h
    case h_2=>cases h
    rename_i a b ha hb
    injection h with h; subst h
    have h0:=hx 0 x a rfl ha
    simp only[Nat.zero_mul,List.drop_zero] at h0
    have hl':cs.length=xs.length*c+c:=by rw[hl,List.length_cons,Nat.add_mul]; omega
    have ih:=arr_cells (c:=c) xs (cs.drop c) b (by simp; omega) (fun i y l hy hl2=>by
      have:=hx (i+1) y l (by simpa using hy) hl2
      rw[List.drop_drop,show c+i*c=(i+1)*c by rw[Nat.add_mul]; omega]; exact this) hb
    rw[← h0,← ih,List.take_append_drop]

theorem str_cells : ∀ (fs : List Field) (xs : List (DataW H × List MemPlace)) (cs L : List Value) (off n : Nat), contig P fs off n = true → off + cs.length = n → xs.length = fs.length →
    (∀ (i:Nat) f x l,fs[i]? = some f→xs[i]? = some x→flatD x.1=some l→(cs.drop (f.offset - off)).take (P.cellsOf f.type)=l∧off≤f.offset)→flatL (xs.map (·.1))=some L→cs=L
  | [],[],cs,L,off,n,hc,hl,_,_,h=>by
    simp[flatL] at h; subst h
    simp[contig] at hc
    apply List.eq_nil_of_length_eq_zero; omega
  | f :: fs,x :: xs,cs,L,off,n,hc,hl,hlen,hx,h=>by
    simp only[List.map_cons,flatL] at h
    split at h
    case h_2=>cases h
    rename_i a b ha hb
    injection h with h; subst h
    simp only[contig,Bool.and_eq_true,beq_iff_eq] at hc
    obtain⟨h0,h0'⟩:=hx 0 f x a rfl rfl ha
    rw[hc.1,Nat.sub_self,List.drop_zero] at h0
    have hge:∀ (fs:List Field) (off n:Nat),contig P fs off n=true→off≤n∧∀ (i:Nat) (f:Field),fs[i]? = some f→off≤f.offset:=by
      intro fs
      induction fs with
      | nil=>intro off n h; simp[contig] at h; exact⟨by omega,fun i f hf=>by simp at hf⟩
      | cons g gs ih =>
        intro off n h
        simp only[contig,Bool.and_eq_true,beq_iff_eq] at h
        obtain⟨h1,h2⟩:=ih _ _ h.2
        refine⟨by omega,fun i f hf=>?_⟩
        cases i with
        | zero=>simp at hf; subst hf; omega
        | succ i=>have:=h2 i f (by simpa using hf); omega
    have hle:=hge _ _ _ hc.2
    have ih:=str_cells fs xs (cs.drop (P.cellsOf f.type)) b (off+P.cellsOf f.type) n hc.2 (by simp; omega) (by simpa using hlen) (fun i g y l hg hy hl2=>by
      obtain⟨h3,h4⟩:=hx (i+1) g y l (by simpa using hg) (by simpa using hy) hl2
      have h5:=hle.2 i g hg
      rw[List.drop_drop,show P.cellsOf f.type+(g.offset - (off+P.cellsOf f.type))=g.offset - off by omega]
      exact⟨h3,h5⟩) hb
    rw[← h0,← ih,List.take_append_drop]
  | [],_ :: _,_,_,_,_,_,_,h,_,_=>by simp at h
  | _ :: _,[],_,_,_,_,_,_,h,_,_=>by simp at h

theorem zj5d:∀ (k:Nat) (t:TypeId) (fuel:Nat) (cs L:List Value) (d:DataW H) (ps:List MemPlace),plainT P k t=true→DataW.trod enc P w base spare held fuel t cs=some (d,ps)→flatD d=some L→cs=L
  | 0,_,_,_,_,_,_,h,_,_=>by simp[plainT] at h
  | k+1,t,fuel,cs,L,d,ps,hp,h,hd=>by
    unfold plainT at hp
    split at hp
    · rename_i q ht
      obtain⟨n,rfl,hx,_⟩:=DataW.trod_int ht h
      injection hx with hx _; subst hx
      simpa [flatD] using hd
    · rename_i ht
      cases fuel with
      | zero=>simp[DataW.trod] at h
      | succ m =>
        unfold DataW.trod at h
        rw[ht] at h
        split at h <;> first | (cases h; done) | skip
        all_goals simp_all [flatD]
        all_goals (try (obtain⟨rfl,_⟩:=h; simpa [flatD] using hd))
    · rename_i ht
      obtain⟨s,rfl,hx,_⟩:=DataW.trod_string ht h
      injection hx with hx _; subst hx
      simp[flatD] at hd
      rw[← hd]
    · rename_i n e ht
      simp only[Bool.and_eq_true,beq_iff_eq] at hp
      obtain⟨xs,m,_,hx,hl,hn,hel⟩:=DataW.trod_array ht h
      injection hx with hx _; subst hx
      simp only[flatD] at hd
      refine arr_cells (c:=P.cellsOf e) xs cs L (by rw[hl,hp.2,hn]) (fun i x l hi hxl=>?_) hd
      have hlt:i < n:=by have:=(List.getElem?_eq_some_iff.1 hi).1; omega
      have:=hel i hlt
      rw[hi] at this
      exact zj5d k e m _ l x.1 x.2 hp.1 this hxl
    · rename_i fs ht
      simp only[Bool.and_eq_true] at hp
      obtain⟨xs,m,_,hx,hl,hn,hel⟩:=DataW.trod_struct ht h
      injection hx with hx _; subst hx
      simp only[flatD] at hd
      refine str_cells fs.toList xs cs L 0 (P.cellsOf t) hp.2 (by rw[hl]; omega) (by simpa using hn) (fun i f x l hf hi hxl=>⟨?_,Nat.zero_le _⟩) hd
      have hf':fs[i]? = some f:=by simpa using hf
      have:=hel i f hf'
      rw[hi] at this
      have hpf:plainT P k f.type=true:=by
        have hm:f ∈ fs:=Array.mem_of_getElem? hf'
        exact Array.all_eq_true_iff_forall_mem.1 hp.1 f hm
      rw[Nat.sub_zero]
      exact zj5d k f.type m _ l x.1 x.2 hpf this hxl
    · cases hp
end

theorem laid_cells {P : Program} {w : World} {l : List (String × DataW Unit)} (h : laidMetH P l w) {n : String} {d : DataW Unit} {g : Nat} {t : TypeId} {cs : List Value} {k : Nat}
    (hf:(l.filter fun x=>x.1 == n)=[(n,d)]) (hh:d.handleName?.isNone=true) (hg:P.globalNamed n=some g) (ht:(P.globals[g]?).map (·.type)=some t) (hp:plainT P k t=true) (hc:flatD d=some cs) (hpos:0 < cs.length) :
    g < w.heap.size∧∀ j u,cs[j]? = some u→w.cell? ⟨g,j,none⟩=some u:=by
  have h1:=h.filter fun x=>x.1 == n
  rw[hf,MakeChecks.laidMetH_plain _ _ _ (by simp[hh])] at h1
  obtain⟨ps,⟨g0,t0,cs0,f0,p0,q0,hg0,ht0,hv0,hd0,_⟩,_⟩:=h1
  obtain rfl:=Option.some.inj (hg.symm.trans hg0)
  obtain rfl:=Option.some.inj (ht.symm.trans ht0)
  have e:=zj5d k t f0 cs0.toList cs d p0 hp hd0 hc
  have hcell:∀ j u,cs[j]? = some u→w.cell? ⟨g,j,none⟩=some u:=by
    intro j u hj
    rw[World.var?_cell hg0 hv0 j]
    rw[← e] at hj; simpa using hj
  refine⟨?_,hcell⟩
  have h0:=hcell 0 _ (List.getElem?_eq_getElem hpos)
  unfold World.cell? at h0
  split at h0
  · rename_i e1; exact (Array.getElem?_eq_some_iff.1 e1).1
  · cases h0

theorem mapMc {α β:Type} {g h:α→Option β}:∀ (l:List α),(∀ a ∈ l,g a=h a)→l.mapM g=l.mapM h
  | [],_=>rfl
  | a :: l,k=>by rw[List.mapM_cons,List.mapM_cons,k a (by simp),mapMc l (fun b hb=>k b (by simp[hb]))]

def Ks:List IntKind→List Value→Prop
  | [],vs=>vs=[]
  | k :: ks,vs=>∃ n r,vs=.int k n :: r∧(Lit.int k n).wf=true∧Ks ks r
theorem Ks.append:∀ {a b:List IntKind} {x y:List Value},Ks a x→Ks b y→Ks (a++b) (x++y)
  | [],_,_,_,h,k=>by simp only[Ks] at h; subst h; simpa using k
  | q :: a,_,_,_,h,k=>by
    simp only[Ks] at h; obtain⟨n,r,rfl,hw,hr⟩:=h
    exact⟨n,_,rfl,hw,Ks.append hr k⟩
def intsF (g:TypeId→Option (List IntKind)):List Field→Option (List IntKind)
  | []=>some []
  | f :: fs=>match g f.type,intsF g fs with
    | some a,some b=>some (a++b)
    | _,_=>none
def intsT (P:Program):Nat→TypeId→Option (List IntKind)
  | 0,_=>none
  | k+1,t=>match P.underlying t with
    | some (.int q)=>some [q]
    | some (.array n e)=>(match intsT P k e with
      | some l=>if P.cellsOf t=n*P.cellsOf e then some (List.replicate n l).flatten else none
      | none=>none)
    | some (.struct fs)=>if contig P fs.toList 0 (P.cellsOf t) then intsF (intsT P k) fs.toList else none
    | _=>none

section
variable {H:Type} {enc:TypeId × Value→H} {P:Program}
def Alike (enc:TypeId × Value→H) (P:Program) (t:TypeId) (fuel:Nat) (cs:List Value) (x:DataW H × List MemPlace):Prop :=
  x.2=[]∧∀ (w:World) (base:Nat) (spare:Nat→Bool) (held:Bool),DataW.trod enc P w base spare held fuel t cs=some x

theorem flat_nil {xs:List (DataW H × List MemPlace)} (h:∀ x ∈ xs,x.2=[]):xs.flatMap (·.2)=[]:=by
  induction xs with
  | nil=>rfl
  | cons y ys ih=>rw[List.flatMap_cons,h y (by simp),ih (fun x hx=>h x (by simp[hx]))]; rfl

theorem arr_ks {c:Nat} {l:List IntKind}:∀ (n:Nat) (cs:List Value),cs.length=n*c→(∀ i,i < n→Ks l ((cs.drop (i*c)).take c))→Ks (List.replicate n l).flatten cs
  | 0,cs,hl,_=>by simp only[List.replicate_zero,List.flatten_nil,Ks]; exact List.eq_nil_of_length_eq_zero (by omega)
  | n+1,cs,hl,h=>by
    have h0:=h 0 (by omega)
    rw[Nat.zero_mul,List.drop_zero] at h0
    have hl':cs.length=n*c+c:=by rw[hl,Nat.add_mul]; omega
    have ih:=arr_ks (c:=c) (l:=l) n (cs.drop c) (by simp; omega) (fun i hi=>by
      have:=h (i+1) (by omega)
      rw[List.drop_drop,show c+i*c=(i+1)*c by rw[Nat.add_mul]; omega]; exact this)
    rw[List.replicate_succ,List.flatten_cons,← List.take_append_drop c cs]
    rw[List.take_append_drop] at *
    have:=h0.append ih
    rwa [List.take_append_drop] at this

theorem str_ks {k : Nat} : ∀ (fs : List Field) (cs : List Value) (off n : Nat) (L : List IntKind), contig P fs off n = true → off + cs.length = n → intsF (intsT P k) fs = some L →
    (∀ (i:Nat) f l,fs[i]? = some f→intsT P k f.type=some l→Ks l ((cs.drop (f.offset - off)).take (P.cellsOf f.type)))→Ks L cs
  | [],cs,off,n,L,hc,hl,hL,_=>by
    simp[intsF] at hL; subst hL
    simp[contig] at hc
    simp only[Ks]
    apply List.eq_nil_of_length_eq_zero; omega
  | f :: fs,cs,off,n,L,hc,hl,hL,hx=>by
    simp only[intsF] at hL
    split at hL
    case h_2=>cases hL
    rename_i a b ha hb
    injection hL with hL; subst hL
    simp only[contig,Bool.and_eq_true,beq_iff_eq] at hc
    have h0:=hx 0 f a rfl ha
    rw[hc.1,Nat.sub_self,List.drop_zero] at h0
    have hge:∀ (fs:List Field) (off n:Nat),contig P fs off n=true→off≤n∧∀ (i:Nat) (f:Field),fs[i]? = some f→off≤f.offset:=by
      intro fs
      induction fs with
      | nil=>intro off n h; simp[contig] at h; exact⟨by omega,fun i f hf=>by simp at hf⟩
      | cons g gs ih =>
        intro off n h
        simp only[contig,Bool.and_eq_true,beq_iff_eq] at h
        obtain⟨h1,h2⟩:=ih _ _ h.2
        refine⟨by omega,fun i f hf=>?_⟩
        cases i with
        | zero=>simp at hf; subst hf; omega
        | succ i=>have:=h2 i f (by simpa using hf); omega
    have hle:=hge _ _ _ hc.2
    have ih:=str_ks fs (cs.drop (P.cellsOf f.type)) (off+P.cellsOf f.type) n b hc.2 (by simp; omega) hb (fun i g l hg hl2=>by
      have h3:=hx (i+1) g l (by simpa using hg) hl2
      have h5:=hle.2 i g hg
      rw[List.drop_drop,show P.cellsOf f.type+(g.offset - (off+P.cellsOf f.type))=g.offset - off by omega]
      exact h3)
    have:=h0.append ih
    rwa [List.take_append_drop] at this

theorem zj3z {k:Nat}:∀ {fs:List Field} {L:List IntKind},intsF (intsT P k) fs=some L→∀ (i:Nat) f,fs[i]? = some f→∃ l,intsT P k f.type=some l
  | [],_,_,i,f,h=>by simp at h
  | g :: fs,L,hL,i,f,h=>by
    simp only[intsF] at hL
    split at hL
    case h_2=>cases hL
    rename_i a b ha hb
    cases i with
    | zero=>simp at h; subst h; exact⟨a,ha⟩
    | succ i=>exact zj3z hb i f (by simpa using h)

theorem trod_ints {w:World} {base:Nat} {spare:Nat→Bool} {held:Bool}:∀ (k:Nat) (t:TypeId) (fuel:Nat) (cs:List Value) (L:List IntKind) (x:DataW H × List MemPlace),intsT P k t=some L→DataW.trod enc P w base spare held fuel t cs=some x→Ks L cs∧Alike enc P t fuel cs x
  | 0,_,_,_,_,_,h,_=>by simp[intsT] at h
  | k+1,t,fuel,cs,L,x,hp,h=>by
    simp only[intsT] at hp
    split at hp
    · rename_i q ht
      injection hp with hp; subst hp
      obtain⟨n,rfl,rfl,hw⟩:=DataW.trod_int ht h
      refine⟨⟨n,[],rfl,hw,rfl⟩,rfl,fun w' base' spare' held'=>?_⟩
      cases fuel with
      | zero=>simp[DataW.trod] at h
      | succ m =>
        unfold DataW.trod at h ⊢
        rw[ht] at h ⊢
        exact h
    · rename_i n e ht
      split at hp
      case h_2=>cases hp
      rename_i l hle
      split at hp
      case isFalse=>cases hp
      rename_i hsz
      injection hp with hp; subst hp
      obtain⟨xs,m,rfl,rfl,hl,hn,hel⟩:=DataW.trod_array ht h
      have each:∀ i,i < n→∃ y,xs[i]? = some y∧Ks l ((cs.drop (i*P.cellsOf e)).take (P.cellsOf e))∧Alike enc P e m ((cs.drop (i*P.cellsOf e)).take (P.cellsOf e)) y:=by
        intro i hi
        obtain⟨y,hy⟩:∃ y,xs[i]? = some y:=⟨_,List.getElem?_eq_getElem (by omega)⟩
        have:=hel i hi
        rw[hy] at this
        exact⟨y,hy,trod_ints k e m _ l y hle this⟩
      refine⟨arr_ks n cs (by rw[hl,hsz]) fun i hi=>?_,?_,fun w' base' spare' held'=>?_⟩
      · obtain⟨y,_,h1,_⟩:=each i hi; exact h1
      · refine flat_nil fun y hy=>?_
        obtain⟨i,hi,rfl⟩:=List.mem_iff_getElem.1 hy
        obtain⟨z,hz,_,h2⟩:=each i (by omega)
        rw[List.getElem?_eq_getElem hi] at hz; injection hz with hz; subst hz
        exact h2.1
      · have hh:=h
        unfold DataW.trod at hh ⊢
        rw[ht] at hh ⊢
        dsimp only at hh ⊢
        rw[if_pos hl] at hh ⊢
        rw[← hh]
        congr 1
        refine mapMc _ fun i hi=>?_
        have hi:=List.mem_range.1 hi
        obtain⟨y,hy,_,h2⟩:=each i hi
        rw[h2.2 w' base' spare' held',hel i hi,hy]
    · rename_i fs ht
      split at hp
      case isFalse=>cases hp
      rename_i hcon
      obtain⟨xs,m,rfl,rfl,hl,hn,hel⟩:=DataW.trod_struct ht h
      have each:∀ (i:Nat) (f:Field) l,fs[i]? = some f→intsT P k f.type=some l→∃ y,xs[i]? = some y∧Ks l ((cs.drop f.offset).take (P.cellsOf f.type))∧Alike enc P f.type m ((cs.drop f.offset).take (P.cellsOf f.type)) y:=by
        intro i f l hf hlf
        have hi:i < xs.length:=by have:=(Array.getElem?_eq_some_iff.1 hf).1; omega
        obtain⟨y,hy⟩:∃ y,xs[i]? = some y:=⟨_,List.getElem?_eq_getElem hi⟩
        have:=hel i f hf
        rw[hy] at this
        exact⟨y,hy,trod_ints k f.type m _ l y hlf this⟩
      refine⟨str_ks fs.toList cs 0 (P.cellsOf t) L hcon (by omega) hp fun i f l hf hlf=>?_,?_,fun w' base' spare' held'=>?_⟩
      · obtain⟨y,_,h1,_⟩:=each i f l (by simpa using hf) hlf
        rw[Nat.sub_zero]; exact h1
      · refine flat_nil fun y hy=>?_
        obtain⟨i,hi,rfl⟩:=List.mem_iff_getElem.1 hy
        have hif:i < fs.size:=by omega
        have hf:fs[i]? = some fs[i]:=Array.getElem?_eq_getElem hif
        obtain⟨l,hlf⟩:=zj3z hp i fs[i] (by simp)
        obtain⟨z,hz,_,h2⟩:=each i _ l hf hlf
        rw[List.getElem?_eq_getElem hi] at hz; injection hz with hz; subst hz
        exact h2.1
      · have hh:=h
        unfold DataW.trod at hh ⊢
        rw[ht] at hh ⊢
        dsimp only at hh ⊢
        rw[if_pos hl] at hh ⊢
        rw[← hh]
        congr 1
        refine mapMc _ fun f hfm=>?_
        obtain⟨i,hi,rfl⟩:=List.mem_iff_getElem.1 hfm
        have hf:fs[i]? = some fs.toList[i]:=by simp at hi ⊢
        obtain⟨l,hlf⟩:=zj3z hp i fs.toList[i] (List.getElem?_eq_getElem hi)
        obtain⟨y,hy,_,h2⟩:=each i _ l hf hlf
        rw[h2.2 w' base' spare' held',hel i _ hf,hy]
    · cases hp
end
open Go.ChangeShapes Go.WideShapes Go.ChangeAt Go.RowKit Go.Deep Go.Sx

section
variable {H:Type} {enc:TypeId × Value→H} {P:Program}
theorem post_of_below {f : Func} {s : ChangeSpec} {apart fresh handsOn again : Bool} {W W' : World} {args : Array Value} {v : Value} {ds gs : List (DataW H)} {before pa pv : List MemPlace}
    (hW:DataW.Whole enc P f.params.toList s.vars apart W args.toList ds gs before)
    (hres:∀ (b:Nat) (sp:Nat→Bool) (hd:Bool),DataW.TrodAll enc P W' b sp hd f.resultTypes.toList (v.resultList f.resultTypes.size) (s.fn H (ds++gs)).results [])
    (hargs:∀ sp:Nat→Bool,(∀ p ∈ before,sp p.block=true)→DataW.TrodAll enc P W' 0 sp true f.params.toList args.toList (s.fn H (ds++gs)).args pa)
    (hvars:∀ sp:Nat→Bool,(∀ p ∈ before,sp p.block=true)→DataW.TrodVars enc P W' sp s.vars (s.fn H (ds++gs)).vars pv)
    (hps:before=pa++pv) (hb:Below W.heap.size W W')
    (hok:∀ (j:Nat) (t:TypeId) (r:Value),f.resultTypes[j]? = some t→(v.resultList f.resultTypes.size)[j]? = some r→Value.okWide P W' .any 0 t r) :
    s.post enc P f apart fresh handsOn again W args v W':=by
  have hlt:∀ p ∈ before,p.block < W.heap.size:=fun p hp=>hW.lt p hp
  have hold:∀ p ∈ before,(fun b=>decide (b < W.heap.size)) p.block=true:=fun p hp=>by simpa using hlt p hp
  refine⟨ds,gs,before,[],pa,pv,hW,hres _ _ _,hargs _ hold,hvars _ hold,World.keptBut_mono (fun p hp=>⟨hp,?_⟩) (hb.frame (· ∈ before)),fun _=>?_⟩
  · rw[hps,List.mem_append] at hp
    exact Or.inr hp
  · obtain⟨_,_,_,_,_,hz,hn⟩:=hW
    refine⟨hok,_,_,([]++pa)++pv,⟨[]++pa,pv,trodAll_append (hargs _ (fun _ _=>rfl)) (hres _ _ _),hvars _ (fun _ _=>rfl),rfl,?_,?_⟩,?_⟩
    · intro b off hp
      have hin:MemPlace.cell b off ∈ before:=by rw[hps]; simpa using hp
      rw[hb.frozen (hlt _ hin)]
      exact hz b off hin
    · intro ha
      have:=hn ha
      rw[hps] at this
      simpa using this
    · intro p hp _
      rw[hps]
      simpa using hp
end

theorem rowAt_list {α : Type} {w : World} {a : Addr} {f : α → List Value} {sz : Nat} (hf : ∀ x, (f x).length = sz) {Q : α → Prop} (n : Nat) (h : ∀ i, i < n → ∃ x : α, Q x ∧ ∀ k v, (f x)[k]? = some v → w.cell? (a.add (i * sz + k)) = some v) :
    ∃ l:List α,l.length=n∧RowAt w (some a) (l.flatMap f)∧∀ x ∈ l,Q x:=by
  induction n with
  | zero=>exact⟨[],rfl,fun j u hj=>by simp at hj,by simp⟩
  | succ n ih =>
    obtain⟨l,hl,hr,hq⟩:=ih fun i hi=>h i (by omega)
    obtain⟨x,hqx,hx⟩:=h n (by omega)
    refine⟨l++[x],by simp[hl],fun j u hj=>?_,fun y hy=>?_⟩
    · rw[List.flatMap_append] at hj
      have hlen:(l.flatMap f).length=n*sz:=by rw[zj2j hf l,hl]
      by_cases hlt:j < (l.flatMap f).length
      · rw[List.getElem?_append_left hlt] at hj; exact hr j u hj
      · rw[List.getElem?_append_right (by omega)] at hj
        have e:[x].flatMap f=f x:=by simp
        rw[e] at hj
        have hc:=hx _ _ hj
        have ej:n*sz+(j - (l.flatMap f).length)=j:=by omega
        rw[ej] at hc
        refine⟨a,rfl,?_,hc⟩
        unfold World.cell? at hc
        rw[zj1h] at hc
        split at hc
        · rename_i e; exact (Array.getElem?_eq_some_iff.1 e).1
        · cases hc
    · rcases List.mem_append.1 hy with hy | hy
      · exact hq y hy
      · simp at hy; subst hy; exact hqx

section
variable {H:Type} {enc:TypeId × Value→H} {P:Program} {W:World}
theorem open_rows' {α : Type} {f : α → List Value} {Q : α → Prop} {base : Nat} {spare : Nat → Bool} {held : Bool} {t e : TypeId} {L : List IntKind} {fuel : Nat} {cs : List Value} {x : DataW H × List MemPlace} (k : Nat) (ht : P.underlying t = some (.slice e)) (hi : intsT P k e = some L) (hc : P.cellsOf e = L.length)
    (hf:∀ x,(f x).length=L.length) (hks:∀ cs,Ks L cs→∃ x,cs=f x∧Q x) (hfu:DataW.trod enc P W base spare held fuel t cs=some x) :
    ∃ (A:Option Addr) (c:Nat) (l:List α),cs=[.slice A l.length c]∧l.length≤c∧RowAt W A (l.flatMap f)∧∀ x ∈ l,Q x:=by
  rcases open_slice ht hfu with⟨e1,_⟩ | ⟨a',len,cap,m,n',D,Pl,e1,_,hl,hm,hmm,_,hel⟩
  · exact⟨none,0,[],e1,Nat.le_refl _,fun j u hj=>by simp at hj,by simp⟩
  · obtain ⟨l, h1, h2, h3⟩ := rowAt_list (w := W) (a := a') (f := f) (sz := L.length) hf (Q := Q) len (fun i hi' => by
      obtain⟨cs',hcell,htr⟩:=hel i (by rw[hmm]; split <;> omega)
      obtain⟨hk,_⟩:=trod_ints k e n' cs' L _ hi htr
      obtain⟨x,rfl,hq⟩:=hks cs' hk
      refine⟨x,hq,fun j u hj=>?_⟩
      obtain⟨_,hlen,hat⟩:=World.cells?_some hcell
      have hjl:=(List.getElem?_eq_some_iff.1 hj).1
      have:=hat j (by rw[hf] at hjl; omega)
      rw[hc] at this
      rw[← Go.Deep.add_add,this]; exact hj)
    exact⟨some a',cap,l,by rw[h1]; exact e1,by omega,h2,h3⟩
end
end Go.Dk
