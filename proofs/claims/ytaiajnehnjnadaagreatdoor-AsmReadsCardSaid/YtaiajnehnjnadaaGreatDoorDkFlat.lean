/- A package variable that is listed with plain data (numbers, strings, bools in arrays and structs): its cells in the world. -/
import Derived.ProofKit
import Derived.OpenShut
import Derived.FnData
import Derived.LaidSub
import Derived.MakeChecks
import Derived.KernelRfl
import Derived.Lay
import Derived.WideShapes
import Derived.Below
import Derived.Carry
import Derived.ChangeSame
import Derived.Deep.Slices
import Derived.Deep.Fields
import Derived.Test.YtaiajnehnjnadaaGreatDoorSxLib
set_option linter.unusedSimpArgs false
set_option linter.unusedVariables false
set_option linter.unnecessarySimpa false
namespace Go.Dk
open Go

mutual
def flatD {H:Type}:DataW H→Option (List Value)
  | .lit (.int k n)=>some [.int k n]
  | .lit (.bool b)=>some [.bool b]
  | .lit (.string s)=>some [.string ⟨⟨s⟩⟩]
  | .agg l=>flatL l
  | _=>none
def flatL {H:Type}:List (DataW H)→Option (List Value)
  | []=>some []
  | d :: l=>match flatD d,flatL l with
    | some a,some b=>some (a++b)
    | _,_=>none
end
def contig (P:Program):List Field→Nat→Nat→Bool
  | [],off,n=>off == n
  | f :: fs,off,n=>f.offset == off && contig P fs (off+P.cellsOf f.type) n
def plainT (P:Program):Nat→TypeId→Bool
  | 0,_=>false
  | k+1,t=>match P.underlying t with
    | some (.int _)=>true
    | some .bool=>true
    | some .string=>true
    | some (.array n e)=>plainT P k e && (P.cellsOf t == n*P.cellsOf e)
    | some (.struct fs)=>fs.all (fun f=>plainT P k f.type) && contig P fs.toList 0 (P.cellsOf t)
    | _=>false

section
variable {H:Type} {enc:TypeId × Value→H} {P:Program} {w:World} {base:Nat} {spare:Nat→Bool} {held:Bool}

theorem arr_cells {c:Nat}:∀ (xs:List (DataW H × List MemPlace)) (cs L:List Value),cs.length=xs.length*c→(∀ (i:Nat) x l,xs[i]? = some x→flatD x.1=some l→(cs.drop (i*c)).take c=l)→flatL (xs.map (·.1))=some L→cs=L
  | [],cs,L,hl,_,h=>by
    simp[flatL] at h; subst h
    simpa using hl
  | x :: xs,cs,L,hl,hx,h=>by
    simp only[List.map_cons,flatL] at h
    split at h
    case h_2=>cases h
    rename_i a b ha hb
    injection h with h; subst h
    have h0:=hx 0 x a rfl ha
    simp only[Nat.zero_mul,List.drop_zero] at h0
    have hl':cs.length=xs.length*c+c:=by rw[hl,List.length_cons,Nat.add_mul]; omega
    have ih:=arr_cells (c:=c) xs (cs.drop c) b (by simp; omega) (fun i y l hy hl2=>by
      have:=hx (i+1) y l (by simpa using hy) hl2
      rw[List.drop_drop,show c+i*c=(i+1)*c by rw[Nat.add_mul]; omega]; exact this) hb
    rw[← h0,← ih,List.take_append_drop]

theorem str_cells : ∀ (fs : List Field) (xs : List (DataW H × List MemPlace)) (cs L : List Value) (off n : Nat), contig P fs off n = true → off + cs.length = n → xs.length = fs.length →
    (∀ (i:Nat) f x l,fs[i]? = some f→xs[i]? = some x→flatD x.1=some l→(cs.drop (f.offset - off)).take (P.cellsOf f.type)=l∧off≤f.offset)→flatL (xs.map (·.1))=some L→cs=L
  | [],[],cs,L,off,n,hc,hl,_,_,h=>by
    simp[flatL] at h; subst h
    simp[contig] at hc
    apply List.eq_nil_of_length_eq_zero; omega
  | f :: fs,x :: xs,cs,L,off,n,hc,hl,hlen,hx,h=>by
    simp only[List.map_cons,flatL] at h
    split at h
    case h_2=>cases h
    rename_i a b ha hb
    injection h with h; subst h
    simp only[contig,Bool.and_eq_true,beq_iff_eq] at hc
    obtain⟨h0,h0'⟩:=hx 0 f x a rfl rfl ha
    rw[hc.1,Nat.sub_self,List.drop_zero] at h0
    have hge:∀ (fs:List Field) (off n:Nat),contig P fs off n=true→off≤n∧∀ (i:Nat) (f:Field),fs[i]? = some f→off≤f.offset:=by
      intro fs
      induction fs with
      | nil=>intro off n h; simp[contig] at h; exact⟨by omega,fun i f hf=>by simp at hf⟩
      | cons g gs ih =>
        intro off n h
        simp only[contig,Bool.and_eq_true,beq_iff_eq] at h
        obtain⟨h1,h2⟩:=ih _ _ h.2
        refine⟨by omega,fun i f hf=>?_⟩
        cases i with
        | zero=>simp at hf; subst hf; omega
        | succ i=>have:=h2 i f (by simpa using hf); omega
    have hle:=hge _ _ _ hc.2
    have ih:=str_cells fs xs (cs.drop (P.cellsOf f.type)) b (off+P.cellsOf f.type) n hc.2 (by simp; omega) (by simpa using hlen) (fun i g y l hg hy hl2=>by
      obtain⟨h3,h4⟩:=hx (i+1) g y l (by simpa using hg) (by simpa using hy) hl2
      have h5:=hle.2 i g hg
      rw[List.drop_drop,show P.cellsOf f.type+(g.offset - (off+P.cellsOf f.type))=g.offset - off by omega]
      exact⟨h3,h5⟩) hb
    rw[← h0,← ih,List.take_append_drop]
  | [],_ :: _,_,_,_,_,_,_,h,_,_=>by simp at h
  | _ :: _,[],_,_,_,_,_,_,h,_,_=>by simp at h

theorem zj3k:∀ (k:Nat) (t:TypeId) (fuel:Nat) (cs L:List Value) (d:DataW H) (ps:List MemPlace),plainT P k t=true→DataW.trod enc P w base spare held fuel t cs=some (d,ps)→flatD d=some L→cs=L
  | 0,_,_,_,_,_,_,h,_,_=>by simp[plainT] at h
  | k+1,t,fuel,cs,L,d,ps,hp,h,hd=>by
    unfold plainT at hp
    split at hp
    · rename_i q ht
      obtain⟨n,rfl,hx,_⟩:=DataW.trod_int ht h
      injection hx with hx _; subst hx
      simpa [flatD] using hd
    · rename_i ht
      cases fuel with
      | zero=>simp[DataW.trod] at h
      | succ m =>
        unfold DataW.trod at h
        rw[ht] at h
        split at h <;> first | (cases h; done) | skip
        all_goals simp_all [flatD]
        all_goals (try (obtain⟨rfl,_⟩:=h; simpa [flatD] using hd))
    · rename_i ht
      obtain⟨s,rfl,hx,_⟩:=DataW.trod_string ht h
      injection hx with hx _; subst hx
      simp[flatD] at hd
      rw[← hd]
    · rename_i n e ht
      simp only[Bool.and_eq_true,beq_iff_eq] at hp
      obtain⟨xs,m,_,hx,hl,hn,hel⟩:=DataW.trod_array ht h
      injection hx with hx _; subst hx
      simp only[flatD] at hd
      refine arr_cells (c:=P.cellsOf e) xs cs L (by rw[hl,hp.2,hn]) (fun i x l hi hxl=>?_) hd
      have hlt:i < n:=by have:=(List.getElem?_eq_some_iff.1 hi).1; omega
      have:=hel i hlt
      rw[hi] at this
      exact zj3k k e m _ l x.1 x.2 hp.1 this hxl
    · rename_i fs ht
      simp only[Bool.and_eq_true] at hp
      obtain⟨xs,m,_,hx,hl,hn,hel⟩:=DataW.trod_struct ht h
      injection hx with hx _; subst hx
      simp only[flatD] at hd
      refine str_cells fs.toList xs cs L 0 (P.cellsOf t) hp.2 (by rw[hl]; omega) (by simpa using hn) (fun i f x l hf hi hxl=>⟨?_,Nat.zero_le _⟩) hd
      have hf':fs[i]? = some f:=by simpa using hf
      have:=hel i f hf'
      rw[hi] at this
      have hpf:plainT P k f.type=true:=by
        have hm:f ∈ fs:=Array.mem_of_getElem? hf'
        exact Array.all_eq_true_iff_forall_mem.1 hp.1 f hm
      rw[Nat.sub_zero]
      exact zj3k k f.type m _ l x.1 x.2 hpf this hxl
    · cases hp
end

theorem laid_cells {P : Program} {w : World} {l : List (String × DataW Unit)} (h : laidMetH P l w) {n : String} {d : DataW Unit} {g : Nat} {t : TypeId} {cs : List Value} {k : Nat}
    (hf:(l.filter fun x=>x.1 == n)=[(n,d)]) (hh:d.handleName?.isNone=true) (hg:P.globalNamed n=some g) (ht:(P.globals[g]?).map (·.type)=some t) (hp:plainT P k t=true) (hc:flatD d=some cs) (hpos:0 < cs.length) :
    g < w.heap.size∧∀ j u,cs[j]? = some u→w.cell? ⟨g,j,none⟩=some u:=by
  have h1:=h.filter fun x=>x.1 == n
  rw[hf,MakeChecks.laidMetH_plain _ _ _ (by simp[hh])] at h1
  obtain⟨ps,⟨g0,t0,cs0,f0,p0,q0,hg0,ht0,hv0,hd0,_⟩,_⟩:=h1
  obtain rfl:=Option.some.inj (hg.symm.trans hg0)
  obtain rfl:=Option.some.inj (ht.symm.trans ht0)
  have e:=zj3k k t f0 cs0.toList cs d p0 hp hd0 hc
  have hcell:∀ j u,cs[j]? = some u→w.cell? ⟨g,j,none⟩=some u:=by
    intro j u hj
    rw[World.var?_cell hg0 hv0 j]
    rw[← e] at hj; simpa using hj
  refine⟨?_,hcell⟩
  have h0:=hcell 0 _ (List.getElem?_eq_getElem hpos)
  unfold World.cell? at h0
  split at h0
  · rename_i e1; exact (Array.getElem?_eq_some_iff.1 e1).1
  · cases h0

def Ks:List IntKind→List Value→Prop
  | [],vs=>vs=[]
  | k :: ks,vs=>∃ n r,vs=.int k n :: r∧(Lit.int k n).wf=true∧Ks ks r
theorem Ks.append:∀ {a b:List IntKind} {x y:List Value},Ks a x→Ks b y→Ks (a++b) (x++y)
  | [],_,_,_,h,k=>by simp only[Ks] at h; subst h; simpa using k
  | q :: a,_,_,_,h,k=>by
    simp only[Ks] at h; obtain⟨n,r,rfl,hw,hr⟩:=h
    exact⟨n,_,rfl,hw,Ks.append hr k⟩
theorem Ks.length:∀ {a:List IntKind} {x:List Value},Ks a x→x.length=a.length
  | [],_,h=>by simp only[Ks] at h; subst h; rfl
  | q :: a,_,h=>by
    simp only[Ks] at h; obtain⟨n,r,rfl,_,hr⟩:=h
    simp[Ks.length hr]
section
variable {H:Type} {enc:TypeId × Value→H} {P:Program}
end
open Go.ChangeShapes Go.WideShapes Go.ChangeAt Go.RowKit Go.Deep Go.Sx

section
variable {H:Type} {enc:TypeId × Value→H} {P:Program}
theorem post_of_below {f : Func} {s : ChangeSpec} {apart fresh handsOn again : Bool} {W W' : World} {args : Array Value} {v : Value} {ds gs : List (DataW H)} {before pa pv : List MemPlace}
    (hW:DataW.Whole enc P f.params.toList s.vars apart W args.toList ds gs before)
    (hres:∀ (b:Nat) (sp:Nat→Bool) (hd:Bool),DataW.TrodAll enc P W' b sp hd f.resultTypes.toList (v.resultList f.resultTypes.size) (s.fn H (ds++gs)).results [])
    (hargs:∀ sp:Nat→Bool,(∀ p ∈ before,sp p.block=true)→DataW.TrodAll enc P W' 0 sp true f.params.toList args.toList (s.fn H (ds++gs)).args pa)
    (hvars:∀ sp:Nat→Bool,(∀ p ∈ before,sp p.block=true)→DataW.TrodVars enc P W' sp s.vars (s.fn H (ds++gs)).vars pv)
    (hps:before=pa++pv) (hb:Below W.heap.size W W')
    (hok:∀ (j:Nat) (t:TypeId) (r:Value),f.resultTypes[j]? = some t→(v.resultList f.resultTypes.size)[j]? = some r→Value.okWide P W' .any 0 t r) :
    s.post enc P f apart fresh handsOn again W args v W':=by
  have hlt:∀ p ∈ before,p.block < W.heap.size:=fun p hp=>hW.lt p hp
  have hold:∀ p ∈ before,(fun b=>decide (b < W.heap.size)) p.block=true:=fun p hp=>by simpa using hlt p hp
  refine⟨ds,gs,before,[],pa,pv,hW,hres _ _ _,hargs _ hold,hvars _ hold,World.keptBut_mono (fun p hp=>⟨hp,?_⟩) (hb.frame (· ∈ before)),fun _=>?_⟩
  · rw[hps,List.mem_append] at hp
    exact Or.inr hp
  · obtain⟨_,_,_,_,_,hz,hn⟩:=hW
    refine⟨hok,_,_,([]++pa)++pv,⟨[]++pa,pv,trodAll_append (hargs _ (fun _ _=>rfl)) (hres _ _ _),hvars _ (fun _ _=>rfl),rfl,?_,?_⟩,?_⟩
    · intro b off hp
      have hin:MemPlace.cell b off ∈ before:=by rw[hps]; simpa using hp
      rw[hb.frozen (hlt _ hin)]
      exact hz b off hin
    · intro ha
      have:=hn ha
      rw[hps] at this
      simpa using this
    · intro p hp _
      rw[hps]
      simpa using hp
end

section
variable {H:Type} {enc:TypeId × Value→H} {P:Program} {W:World}
end
end Go.Dk
