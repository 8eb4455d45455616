/- The engine, part 6: the last operations; all of them together. -/
import Derived.Test.YtgghmmjoplddbaaGreatDoorSxEqa
import Derived.Laws.IdiomStrings
set_option linter.unusedSimpArgs false
set_option linter.unusedVariables false
set_option linter.unnecessarySimpa false
namespace Go.Sx
section
variable {E:Env} {P:Program} {s:SS} {K:SV→List SO→Prop} {o:Oper} {a:Act} {W:World}
theorem s_fldv {t:TypeId} {fs:Array Field} {i n:Nat} {fd:Field} {x:Operand} (ht:P.underlying t=some (.struct fs)) (hf:fs[i]? = some fd) (hz:szT P fd.type=some n)
  (hu:(P.underlying fd.type).isSome=true) (ho:o.op=.field t x i) (rep:Rep E s a W) (h:xk E s K (.fldv fd.offset n (isAggT P fd.type) x)):ResP P s K o a:=by
 have hx:=rep.ev x
 simp only[xk] at h
 split at h
 case h_2=>exact h.elim
 rename_i l e1
 rw[e1] at hx; simp only[Is] at hx
 obtain⟨us,hL,hv⟩:=hx
 split at h
 case h_2=>exact h.elim
 rename_i vs htk
 obtain⟨hL',hlen,hfit⟩:=hL.takeDrop htk
 rcases zj6v h with⟨hg,hk⟩ | ⟨hg,v,rfl,hk⟩
 ·refine ResP.mk (v:=.agg ((us.drop fd.offset).take n).toArray) ?_ hk (by simp only[Is]; exact⟨_,hL',rfl⟩)
  simp[execOp,ho,Instr.field,run_underlying ht,hf,hv,asAgg,part,zj1c P _ hu,hg,zj0d hz,List.extract_toArray]
 ·simp only[IsL] at hL'
  obtain⟨u,r,hi,rfl,he⟩:=hL'
  have hn:n=1:=by simpa using hlen.symm
  subst hn
  have hu':us[fd.offset]? = some u:=by
   have:=congrArg (·[0]?) he
   simpa using this
  refine ResP.mk (v:=u) ?_ hk hi
  simp[execOp,ho,Instr.field,run_underlying ht,hf,hv,asAgg,part,zj1c P _ hu,hg,hu']
theorem s_nilc {x:Operand} (ho:o.op=.nilCheck x) (rep:Rep E s a W) (h:xk E s K (.nilc x)):ResP P s K o a:=by
 have key:∀ A,a.eval x=.pointer (some A)→∀ W2:World,(execOp a.eval o).run P W2=.ok (.value (.pointer (some A))) W2:=by
  intro A hx; simp[execOp,ho,hx]
 have key2:∀ f p q,a.eval x=.func (.func f) p q→∀ W2:World,(execOp a.eval o).run P W2=.ok (.value (.func (.func f) p q)) W2:=by
  intro f p q hx; simp[execOp,ho,hx]
 have key3:∀ f p q,a.eval x=.func (.yield f) p q→∀ W2:World,(execOp a.eval o).run P W2=.ok (.value (.func (.yield f) p q)) W2:=by
  intro f p q hx; simp[execOp,ho,hx]
 have hx:=rep.ev x
 simp only[xk] at h
 split at h
 ·rename_i e off e1
  rw[e1] at hx; have hx':=hx; simp only[Is] at hx'
  obtain⟨g,hg,hv⟩:=hx'
  rw[hv] at hx
  exact ResP.mk (key _ hv) h hx
 ·rename_i e ver off e1
  rw[e1] at hx; have hx':=hx; simp only[Is] at hx'
  obtain⟨t0,ver',sz0,A,m,c,xs,hm,hle,_,hv⟩:=hx'
  obtain⟨t1,sz1,A1,n1,c1,xs1,he,hk⟩:=zj1q h
  rw[hm] at he; injection he with he; injection he with f1 f2 f3 f4 f5 f6 f7
  subst f1; subst f2; subst f3; subst f4; subst f5; subst f6; subst f7
  obtain⟨A',rfl,hv'⟩:=hv rfl
  rw[hv'] at hx
  exact ResP.mk (key _ hv') hk hx
 ·rename_i A off e1
  rw[e1] at hx; simp only[Is] at hx
  obtain⟨hA,hk⟩:=h
  obtain⟨A',rfl⟩:=Option.isSome_iff_exists.1 hA
  exact ResP.mk (key _ hx) hk (by simp[Is])
 ·rename_i f p q e1
  rw[e1] at hx; have hx':=hx; simp only[Is] at hx'
  obtain⟨u,v,hu,hv,he⟩:=hx'
  rw[he] at hx
  split at h
  ·exact ResP.mk (key2 _ _ _ he) h hx
  ·exact ResP.mk (key3 _ _ _ he) h hx
  ·exact h.elim
 ·rename_i f p q e1
  rw[e1] at hx; have hx':=hx; simp only[Is] at hx'
  rw[hx'] at hx
  split at h
  ·exact ResP.mk (key2 _ _ _ hx') h hx
  ·exact ResP.mk (key3 _ _ _ hx') h hx
  ·exact h.elim
 ·exact h.elim
theorem s_ext {x:Operand} {i:Nat} (ho:o.op=.extract x i) (rep:Rep E s a W) (h:xk E s K (.ext x i)):ResP P s K o a:=by
 have hx:=rep.ev x
 simp only[xk] at h
 split at h
 case h_2=>exact h.elim
 rename_i l e1
 rw[e1] at hx; simp only[Is] at hx
 obtain⟨us,hL,hv⟩:=hx
 split at h
 case h_2=>exact h.elim
 rename_i v hn
 rw[nth_eq] at hn
 obtain⟨u,hu,hi⟩:=hL.get hn
 refine ResP.mk (v:=u) ?_ h hi
 simp[execOp,ho,Instr.extract,hv,hu]
theorem s_mkfn {f:Fn} {p q:Array Operand} (ho:o.op=.makeFunc f p q) (rep:Rep E s a W) (h:xk E s K (.mkfn f p.toList q.toList)):ResP P s K o a:=by
 simp only[xk] at h
 refine ResP.mk (v:=.func f (p.map a.eval) (q.map a.eval)) ?_ h ?_
 ·simp[execOp,ho,Instr.makeFunc]
 ·simp only[Is]; exact⟨_,_,rep.evL _,rep.evL _,by rw[← Array.toList_map,← Array.toList_map,Array.toArray_toList,Array.toArray_toList]⟩
def pureK:XK→Bool
 | .load .. | .store .. | .alloc .. | .box .. | .buildS .. | .app .. | .b2s ..=>false
 | .mkmap | .lkup .. | .mupd .. | .mdel .. | .lenM .. | .mkslc .. | .cpy .. | .s2b .. | .rngS .. | .nxtS .. | .clr .. | .mrk .. | .lkupA .. | .mupdA .. | .str0 .. | .rngM .. | .nxtM .. | .entM ..=>false
 | _=>true
def readK:XK→Bool
 | .load .. | .b2s .. | .lkup .. | .lenM .. | .lkupA ..=>true
 | _=>false
def ResK (E:Env) (P:Program) (s:SS) (K:SV→List SO→Prop) (o:Oper) (a:Act) (W:World) (x:XK):Prop :=
 if pureK x then ResP P s K o a else if readK x then ResR P s K o a W else Res E P s K o a W
theorem xk_sound0 {x:XK} (hc:cmpK0 P o.op=some x) (rep:Rep E s a W) (h:xk E s K x):ResK E P s K o a W x:=by
 generalize hop:o.op=op at hc
 cases op
 case move y=>injection hc with hc; subst hc; exact s_mov (.inl hop) rep h
 case assign y=>injection hc with hc; subst hc; exact s_mov (.inr hop) rep h
 case pick c y z=>injection hc with hc; subst hc; exact s_pick hop rep h
 case nilCheck y=>injection hc with hc; subst hc; exact s_nilc hop rep h
 case extract y i=>injection hc with hc; subst hc; exact s_ext hop rep h
 case makeFunc f p q=>injection hc with hc; subst hc; exact s_mkfn hop rep h
 case alloc t =>
  replace hc:zj4v P t=some x:=hc
  unfold zj4v at hc
  split at hc
  ·rename_i z hz; injection hc with hc; subst hc; exact s_alloc hz hop rep h
  ·cases hc
 case box t v =>
  replace hc:cmpBox P t v=some x:=hc
  unfold cmpBox at hc
  split at hc
  ·rename_i n hn; injection hc with hc; subst hc; exact s_box hop rep h
  ·cases hc
 case build t parts =>
  replace hc:zj4w P t parts=some x:=hc
  unfold zj4w at hc
  split at hc
  ·rename_i fs z ht hz
   split at hc
   ·rename_i l hall hcv
    injection hc with hc; subst hc
    exact zj5q ht (fun f hf=>by simpa using Array.all_eq_true_iff_forall_mem.1 hall f hf) hz hcv hop rep h
   ·cases hc
  ·rename_i m e z ht hz
   split at hc
   ·rename_i n hn; injection hc with hc; subst hc; exact zj6x ht hn hz hop rep h
   ·cases hc
  ·cases hc
 case buildSlice t len parts =>
  replace hc:zj3d P t len parts=some x:=hc
  unfold zj3d at hc
  split at hc
  ·rename_i e ht
   split at hc
   ·rename_i n z hn hz
    split at hc
    ·rename_i hh; injection hc with hc; subst hc; exact s_buildS ht hn hz hh.1 hh.2.1 hh.2.2 hop rep h
    ·cases hc
   ·cases hc
  ·cases hc
 case load t y =>
  replace hc:cmpLoad P t y=some x:=hc
  unfold cmpLoad at hc
  split at hc
  ·rename_i l d n hl hu hn
   split at hc
   ·rename_i hh; injection hc with hc; subst hc; exact s_load (by omega) (by rw[hu]; rfl) (by rw[hn,hh]) hop rep h
   ·cases hc
  ·cases hc
 case store t y v =>
  replace hc:zj4u P t y v=some x:=hc
  unfold zj4u at hc
  split at hc
  ·rename_i n hn; injection hc with hc; subst hc; exact s_store (by omega) hn hop rep h
  ·cases hc
 case binOp op t y z t' =>
  replace hc:cmpBin P op t y z=some x:=hc
  unfold cmpBin at hc
  split at hc
  ·rename_i k hk
   cases op <;> injection hc with hc <;> subst hc
   case add=>exact s_arith hop rep h
   case sub=>exact s_arith hop rep h
   case mul=>exact s_arith hop rep h
   case quo=>exact s_div hop rep h
   case rem=>exact s_div hop rep h
   case and=>exact s_bits hop rep h
   case or=>exact s_bits hop rep h
   case xor=>exact s_bits hop rep h
   case andNot=>exact s_bits hop rep h
   case shl=>exact s_shift hop rep h
   case shr=>exact s_shift hop rep h
   all_goals exact s_cmp rfl hop rep h
  ·rename_i hk
   split at hc
   ·injection hc with hc; subst hc; exact (show False from h).elim
   ·injection hc with hc; subst hc; exact (show False from h).elim
   ·cases hc
  ·split at hc
   ·injection hc with hc; subst hc; exact s_cat hop rep h
   ·split at hc
    ·rename_i hcb; injection hc with hc; subst hc; exact s_eqs hcb hop rep h
    ·cases hc
  ·rename_i fs hu
   have hagg:isAggT P t=true:=by simp[isAggT,hu]
   split at hc
   ·unfold cmpEqa at hc; split at hc
    ·rename_i ks hks hg; injection hc with hc; subst hc; exact s_eqa (neg:=false) hks hg hagg hop rep h
    ·cases hc
   ·unfold cmpEqa at hc; split at hc
    ·rename_i ks hks hg; injection hc with hc; subst hc; exact s_eqa (neg:=true) hks hg hagg hop rep h
    ·cases hc
   ·cases hc
  ·rename_i n e hu
   have hagg:isAggT P t=true:=by simp[isAggT,hu]
   split at hc
   ·unfold cmpEqa at hc; split at hc
    ·rename_i ks hks hg; injection hc with hc; subst hc; exact s_eqa (neg:=false) hks hg hagg hop rep h
    ·cases hc
   ·unfold cmpEqa at hc; split at hc
    ·rename_i ks hks hg; injection hc with hc; subst hc; exact s_eqa (neg:=true) hks hg hagg hop rep h
    ·cases hc
   ·cases hc
  ·rename_i td _ _ _ _ _ hu
   split at hc
   ·unfold cmpNil at hc; split at hc
    ·rename_i k hk
     split at hc
     ·rename_i hn; injection hc with hc; subst hc; exact s_isnil (neg:=false) hu hk hn (.inl hop) rep h
     ·rename_i hn; injection hc with hc; subst hc; exact s_isnil (neg:=false) hu hk hn (.inr hop) rep h
     ·cases hc
    ·cases hc
   ·unfold cmpNil at hc; split at hc
    ·rename_i k hk
     split at hc
     ·rename_i hn; injection hc with hc; subst hc; exact s_isnil (neg:=true) hu hk hn (.inl hop) rep h
     ·rename_i hn; injection hc with hc; subst hc; exact s_isnil (neg:=true) hu hk hn (.inr hop) rep h
     ·cases hc
    ·cases hc
   ·cases hc
  ·cases hc
 case slice t y lo hi mx =>
  replace hc:cmpSub P t y lo hi mx=some x:=hc
  unfold cmpSub at hc
  split at hc
  ·rename_i e ht
   split at hc
   ·rename_i n hn; injection hc with hc; subst hc; exact s_sub ht hn hop rep h
   ·cases hc
  ·rename_i ht; injection hc with hc; subst hc; exact s_subT ht hop rep h
  ·cases hc
 case index t y i =>
  replace hc:cmpIxv P t y i=some x:=hc
  unfold cmpIxv at hc
  split at hc
  ·rename_i n e ht
   split at hc
   ·rename_i m d hm hu; injection hc with hc; subst hc; exact s_ixA ht hm (by rw[hu]; rfl) hop rep h
   ·cases hc
  ·rename_i ht; injection hc with hc; subst hc; exact s_ixT ht hop rep h
  ·cases hc
 case unOp op t y =>
  replace hc:cmpUn op y=some x:=hc
  unfold cmpUn at hc
  split at hc
  ·injection hc with hc; subst hc; exact s_not hop rep h
  ·cases hc
 case convert src dst y =>
  replace hc:cmpConv P src dst y=some x:=hc
  unfold cmpConv at hc
  split at hc
  ·rename_i j k hs hd; injection hc with hc; subst hc; exact s_conv hs hd hop rep h
  ·rename_i e hs hd
   split at hc
   ·rename_i he; injection hc with hc; subst hc; exact (show False from h).elim
   ·cases hc
  ·cases hc
 case fieldAddr t y f =>
  replace hc:cmpFld P t y f=some x:=hc
  unfold cmpFld at hc
  split at hc
  ·rename_i fs ht
   split at hc
   ·rename_i fd hf
    split at hc
    ·rename_i n hn; injection hc with hc; subst hc; exact s_fld ht hf hn hop rep h
    ·cases hc
   ·cases hc
  ·cases hc
 case field t y f =>
  replace hc:cmpFldv P t y f=some x:=hc
  unfold cmpFldv at hc
  split at hc
  ·rename_i fs ht
   split at hc
   ·rename_i fd hf
    split at hc
    ·rename_i n d hn hu; injection hc with hc; subst hc; exact s_fldv ht hf hn (by rw[hu]; rfl) hop rep h
    ·cases hc
   ·cases hc
  ·cases hc
 case indexAddr t y i =>
  replace hc:cmpIdx P t y i=some x:=hc
  unfold cmpIdx at hc
  split at hc
  ·rename_i e ht
   split at hc
   ·rename_i n hn; injection hc with hc; subst hc; exact s_idx ht hn hop rep h
   ·cases hc
  ·rename_i n e ht
   split at hc
   ·rename_i m hm
    split at hc
    ·rename_i hlt; injection hc with hc; subst hc; exact s_idxA hlt ht hm hop rep h
    ·cases hc
   ·cases hc
  ·cases hc
 case call c =>
  replace hc:cmpCall P c=some x:=hc
  unfold cmpCall at hc
  split at hc
  ·rename_i d y t t' h1 h2 h3
   have ec:c={ callee:=.builtin .append,args:=#[d,y],argTypes:=#[t,t'] }:=by
    obtain⟨cc,aa,tt⟩:=c
    simp at h1 h2 h3
    subst h1
    have e1:aa=#[d,y]:=by rw[← Array.toArray_toList (xs:=aa),h2]
    have e2:tt=#[t,t']:=by rw[← Array.toArray_toList (xs:=tt),h3]
    rw[e1,e2]
   rw[ec] at hop
   unfold cmpApp at hc
   split at hc
   ·rename_i e e' hT hk
    split at hc
    case h_2=>cases hc
    rename_i n b z hn hb hz
    split at hc
    case h_2=>cases hc
    rename_i hzl htt
    injection hc with hc; subst hc
    exact s_app hT hn hb hz (by simpa using hzl) (by omega) (.inl ⟨_,hk⟩) hop rep h
   ·rename_i e hT hk
    split at hc
    case h_2=>cases hc
    rename_i n b z hn hb hz
    split at hc
    case h_2=>cases hc
    rename_i hzl
    injection hc with hc; subst hc
    exact s_app hT hn hb hz (by simpa using hzl) (by omega) (.inr hk) hop rep h
   ·cases hc
  ·rename_i y t h1 h2 h3
   have e:c={ callee:=.builtin .len,args:=#[y],argTypes:=#[t] }:=by
    obtain⟨cc,aa,tt⟩:=c
    simp at h1 h2 h3
    subst h1
    have e1:aa=#[y]:=by rw[← Array.toArray_toList (xs:=aa),h2]
    have e2:tt=#[t]:=by rw[← Array.toArray_toList (xs:=tt),h3]
    rw[e1,e2]
   rw[e] at hop
   split at hc
   ·rename_i el ht; injection hc with hc; subst hc; exact s_lenS ht hop rep h
   ·rename_i ht; injection hc with hc; subst hc; exact s_lenT ht hop rep h
   ·rename_i n el ht; injection hc with hc; subst hc; exact (show False from h).elim
   ·cases hc
  ·cases hc
 all_goals (replace hc:(none:Option XK)=some x:=hc; cases hc)
theorem inv_lib' {P:Program} {op:Op} {w:Nat} {l:List Operand} (h:cmpK1 P op=some (.lib w l)):∃ c f,op=.call c∧c.callee=.value (.func f)∧libOf P f=some w∧c.args.toList=l:=by
 unfold cmpK1 zj16 at h
 repeat' (split at h)
 all_goals first | (cases h; done) | (injection h with h; injection h with h1 h2; subst h1; subst h2; exact⟨_,_,rfl,by assumption,by assumption,rfl⟩)
theorem find0' {fn : Func} (ho : fn.origin = "") (hn : fn.name = "internal/bytealg.IndexByteString") : Extern.findNext fn = none ∧ Extern.find fn = some Extern.BytealgIndexByte.indexByte := by
 cases fn
 dsimp only at ho hn
 subst ho; subst hn
 exact⟨by kernel_rfl,by kernel_rfl⟩
theorem libOf0 {P : Program} {f : FuncId} (h : libOf P f = some 0) : ∃ fn, P.funcs[f]? = some fn ∧ fn.body = none ∧ fn.origin = "" ∧ fn.name = "internal/bytealg.IndexByteString" := by
 unfold libOf at h
 split at h
 case h_2=>cases h
 rename_i fn hf
 split at h
 ·cases h
 rename_i hb
 split at h
 case h_2=>cases h
 rename_i ho
 split at h
 ·rename_i hn; exact⟨fn,hf,hb,ho,hn⟩
 ·cases h
 ·cases h
 ·cases h
theorem inv_s2b' {P:Program} {op:Op} {t:TypeId} {x:Operand} (h:cmpK1 P op=some (.s2b t x)):∃ src dst,op=.convert src dst x∧P.underlying src=some .string∧P.underlying dst=some (.slice t)∧P.underlying t=some (.int .u8):=by
 unfold cmpK1 zj16 at h
 repeat' (split at h)
 all_goals first | (cases h; done) | (injection h with h; injection h with h1 h2; subst h1; subst h2; exact⟨_,_,rfl,by assumption,by assumption,by assumption⟩)
theorem inv_mrk' {P:Program} {op:Op} {x:Operand} (h:cmpK1 P op=some (.mrk x)):∃ t e0 e,op=.convert t t x∧P.underlying t=some (.slice e0)∧P.underlying t=some (.slice e)∧P.underlying e=some (.int .u8):=by
 unfold cmpK1 zj16 at h
 repeat' (split at h)
 all_goals first | (cases h; done) | (rename_i e6 e7; injection h with h; injection h with h1; subst h1; have e6 := eq_of_beq e6; subst e6
                                      exact⟨_,_,_,rfl,by assumption,by assumption,by assumption⟩)
theorem s_s2b {t:TypeId} {y:Operand} (hc:cmpK1 P o.op=some (.s2b t y)) (rep:Rep E s a W) (h:xk E s K (.s2b t y)):Res E P s K o a W:=by
 obtain⟨src,dst,ho,hsrc,hdst,ht⟩:=inv_s2b' hc
 have hv:=rep.ev y
 simp only[xk] at h
 split at h
 case h_2=>exact h.elim
 rename_i b e1
 rw[e1] at hv
 simp only[Is] at hv
 have hrun:=Go.run_bytes_of_string (P:=P) W src dst t b hsrc hdst ht
 have hd:=rep.heap.drawn (W':=W.drew) rfl rfl rfl rfl
 generalize grownCap W b.size 0 t=cap at hrun
 have hrow:(bytesRow b cap).toList.take (bytesV b).length=bytesV b:=by
  unfold bytesRow bytesV
  simp only[Array.toList_append,Array.toList_map]
  rw[List.take_left' (by simp)]
 refine⟨.slice (some ⟨W.heap.size,0,none⟩) b.size cap,W.drew.alloc (.cells (bytesRow b cap) t ((bytesRow b cap).size,(bytesRow b cap).size+1)),_,_,.inl ?_,h W.heap.size cap,?_,HExt.push _ _,?_⟩
 rotate_left
 ·simp only[Is]
  exact⟨W.heap.size,by rw[blk_eq,nth_eq]; simp[SO.blk],rfl⟩
 ·exact hd.push (.cells (bytesRow b cap) t ((bytesRow b cap).size,(bytesRow b cap).size+1)) _ rfl ⟨_,_,heap_alloc_new W.drew _,hrow⟩
 ·simp only[execOp,ho,hv,Sem.run_bind,hrun,Result.andThen_ok,Sem.run_pure,Sem.run_map]
theorem s_mrk {y:Operand} (hc:cmpK1 P o.op=some (.mrk y)) (rep:Rep E s a W) (h:xk E s K (.mrk y)):Res E P s K o a W:=by
 obtain⟨t,e0,e,ho,ht0,ht,hu⟩:=inv_mrk' hc
 have hx:=rep.ev y
 simp only[xk] at h
 split at h
 case h_2=>exact h.elim
 rename_i i n c e1
 split at h
 case h_2=>exact h.elim
 rename_i g tt l hn
 split at h
 case h_2=>exact h.elim
 rename_i xs hxs
 rw[e1] at hx; simp only[Is] at hx
 obtain⟨g',hg,hv⟩:=hx
 rw[blk_eq,hn] at hg; simp only[Option.bind_some,SO.blk] at hg; injection hg with hg; subst hg
 obtain⟨cs,hcs,hL⟩:=rep.heap.ents i _ hn
 have hcx:cs.toList=xs:=zj0t _ hxs hL
 replace hcs:W.heap[g]? = some (.cells cs tt (0,0)):=hcs
 have hx2:HExt s.H (setn s.H i (.frz g tt xs)):=HExt.setBlk hn rfl rfl
 have hsh:W.shape? g=some (tt,cs.size):=by unfold World.shape?; rw[hcs]
 have hW':(W.freeze ⟨g,cs.size,none⟩ 1).heap[g]? = some (.cells cs tt (cs.size,cs.size+1))∧∀ j,j ≠ g→(W.freeze ⟨g,cs.size,none⟩ 1).heap[j]? = W.heap[j]? := by
  unfold World.freeze
  rw[if_neg (by decide)]
  simp only[Array.getElem?_modify]
  exact⟨by rw[hcs]; simp,fun j hj=>by rw[if_neg (Ne.symm hj)]⟩
 obtain⟨hg',hoth⟩:=hW'
 have hsz:(W.freeze ⟨g,cs.size,none⟩ 1).heap.size=W.heap.size:=by unfold World.freeze; rw[if_neg (by decide)]; simp
 refine⟨.slice (some ⟨g,0,none⟩) n c,W.freeze ⟨g,cs.size,none⟩ 1,_,_,.inl ?_,h,?_,hx2,?_⟩
 ·simp[execOp,ho,hv,convert,run_underlying ht,run_underlying hu,markStringish,hsh]
 ·simp only[Is]
  exact⟨g,by rw[blk_eq,zj0i _ (nth_lt hn)]; rfl,rfl⟩
 ·refine rep.heap.set hn hx2 (fun g1 h1=>.inl (by simpa [SO.fp] using h1)) (fun g1 hne _=>hoth g1 fun e=>hne (by rw[e]; rfl)) (by rw[hsz]; exact Nat.le_refl _) ?_ ?_ ?_ ⟨cs,_,hg',by rw[← hcx]; exact List.take_length⟩
  all_goals (unfold World.freeze; rw[if_neg (by decide)])
theorem inv_eqif' {P:Program} {op:Op} {neg:Bool} {t:TypeId} {x y:Operand} (h:cmpK1 P op=some (.eqif neg t x y)):∃ t',op=.binOp (if neg then .neq else .eql) t x y t'∧∃ m,P.underlying t=some (.interface m):=by
 unfold cmpK1 zj16 at h
 repeat' (split at h)
 all_goals first | (cases h; done) | (injection h with h; injection h with h1 h2 h3 h4; subst h1; subst h2; subst h3; subst h4; exact⟨_,rfl,_,by assumption⟩)
theorem eqn_guard (neg:Bool) (t:TypeId) (y:Operand) (v:Value) (hv:v=.nilIface∨∃ t2 u,v=.iface t2 u) (W:World):(eqGuard (if neg then .neq else .eql) t y (.const .nilIface) v .nilIface).run P W=.ok () W:=by
 rcases hv with rfl | ⟨t2,u,rfl⟩
 ·cases neg <;> cases y <;> rfl
 ·cases neg <;> rfl
theorem eqn_eq {t:TypeId} (hu:∃ m,P.underlying t=some (.interface m)) (d:Nat) (v:Value) (b:Bool) (hv:(v=.nilIface∧b=true)∨(∃ t2 u,v=.iface t2 u)∧b=false) (W:World):(Op.equalIn (d+2) t v .nilIface).run P W=.ok b W:=by
 obtain⟨m,hu⟩:=hu
 rcases hv with⟨rfl,rfl⟩ | ⟨⟨t2,u,rfl⟩,rfl⟩ <;> simp[Op.equalIn,run_underlying hu]
theorem s_eqif {neg:Bool} {t:TypeId} {y z:Operand} (hc:cmpK1 P o.op=some (.eqif neg t y z)) (rep:Rep E s a W) (h:xk E s K (.eqif neg t y z)):ResP P s K o a:=by
 obtain⟨t',ho,hu⟩:=inv_eqif' hc
 have hy:=rep.ev y
 simp only[xk] at h
 have main:∀ (v:Value) (b:Bool),a.eval y=v→z=.const .nilIface→(v=.nilIface∧b=true)∨(∃ t2 u,v=.iface t2 u)∧b=false→∀ W2,(execOp a.eval o).run P W2=.ok (.value (.bool (neg ^^ b))) W2:=by
  intro v b hv hz hb W2
  subst hz
  have h1:=eqn_guard (P:=P) neg t y v (hb.imp (·.1) (·.1)) W2
  have h2:(Op.equal t v .nilIface).run P W2=.ok b W2:=eqn_eq hu 9998 v b hb W2
  have h3:(binOp (if neg then .neq else .eql) t v .nilIface).run P W2=.ok (.bool (neg ^^ b)) W2:=by
   cases neg <;> rcases hb with⟨rfl,rfl⟩ | ⟨⟨t2,u,rfl⟩,rfl⟩ <;> simp[binOp,h2]
  have hz:a.eval (.const .nilIface)=.nilIface:=rfl
  simp only[execOp,ho,hv,hz,Sem.run_bind,h1,Result.andThen_ok,h3]
  rfl
 generalize ev s.F y=q at h hy
 unfold xEqi at h
 split at h
 case h_5=>exact h.elim
 all_goals simp only[Is] at hy
 ·exact ResP.mk (v:=.bool false) (main _ true hy rfl (.inl ⟨rfl,rfl⟩)) h (by simp[Is])
 ·exact ResP.mk (v:=.bool true) (main _ false hy rfl (.inr ⟨⟨_,_,rfl⟩,rfl⟩)) h (by simp[Is])
 ·exact ResP.mk (v:=.bool true) (main _ true hy rfl (.inl ⟨rfl,rfl⟩)) h (by simp[Is])
 ·exact ResP.mk (v:=.bool false) (main _ false hy rfl (.inr ⟨⟨_,_,rfl⟩,rfl⟩)) h (by simp[Is])
theorem s_lib {w:Nat} {args:List Operand} (hc:cmpK1 P o.op=some (.lib w args)) (rep:Rep E s a W) (h:xk E s K (.lib w args)):ResP P s K o a:=by
 obtain⟨c,f,ho,hcal,hl,rfl⟩:=inv_lib' hc
 have hL:=rep.evL c.args.toList
 simp only[xk] at h
 split at h
 case h_2=>exact h.elim
 rename_i b n e1
 rw[e1] at hL
 simp only[IsL,Is] at hL
 obtain⟨_,_,rfl,⟨_,_,rfl,rfl,rfl⟩,hL⟩:=hL
 obtain⟨fn,hf,hb,hor,hname⟩:=libOf0 hl
 have hargs':c.args.map a.eval=#[.string b,.int .u8 n]:=by
  rw[← Array.toList_inj]; simpa using hL
 obtain⟨h1,h2⟩:=find0' hor hname
 refine ResP.mk (v:=.int .i64 (Lib.indexByte b.data.toList n.toNat.toUInt8)) ?_ h (by simp[Is])
 intro W2
 simp only[execOp,ho,resolve,hcal,Act.eval,hargs',Deferred.ofValue,Sem.run_bind,Sem.run_pure,Result.andThen_ok,invoke,Array.append_empty,Array.empty_append]
 rw[run_callFunc_extern hf (by rw[hname]; decide) (by rw[hb]; rfl) h1 h2,Lib.run_indexByteString]
 rfl
def isNew2:XK→Bool
 | .eqif .. | .neg .. | .mm .. | .lib .. | .mkmap | .lkup .. | .mupd .. | .mdel .. | .lenM .. | .mkslc .. | .s2b .. | .mrk .. | .str0 .. | .lkupA .. | .mupdA ..=>false
 | x=>isNew x
theorem xk_new {x:XK} (hn:isNew2 x=true) (h:xk E s K x):False:=by
 cases x <;> first | exact h | cases hn
theorem zj72 {x:XK} (hc:cmpK P o.op=some x) (rep:Rep E s a W) (h:xk E s K x):ResK E P s K o a W x:=by
 unfold cmpK at hc
 split at hc
 ·rename_i y hy; injection hc with hc; subst hc; exact xk_sound0 hy rep h
 ·split at hc
  ·rename_i y hy; injection hc with hc; subst hc
   cases y
   case mm=>exact (show False from h).elim
   case neg=>exact (show False from h).elim
   case s2b=>exact s_s2b hy rep h
   case eqif=>exact s_eqif hy rep h
   case mrk=>exact s_mrk hy rep h
   case lib=>exact s_lib hy rep h
   case mkmap=>exact s_mkmap hy rep h
   case lkup=>exact s_lkup hy rep h
   case mupd=>exact s_mupd hy rep h
   case lkupA=>exact s_lkupA hy rep h
   case mupdA=>exact s_mupdA hy rep h
   case mdel=>exact (show False from h).elim
   case lenM=>exact (show False from h).elim
   case mkslc=>exact s_mkslc hy rep h
   case str0=>exact s_str0 hy rep h
   all_goals first | exact (xk_new rfl h).elim | (have:=cmpK1_new hy; cases this)
  ·split at hc
   ·injection hc with hc; subst hc; exact (xk_new rfl h).elim
   ·cases hc
end
end Go.Sx
