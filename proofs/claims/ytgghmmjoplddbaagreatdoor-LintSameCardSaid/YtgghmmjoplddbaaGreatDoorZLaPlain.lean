/- What is found of a program that is known: by the walk, gone through. -/
import Derived.Test.YtgghmmjoplddbaaGreatDoorZLpLook
import Derived.Test.YtgghmmjoplddbaaGreatDoorZAsW5
import Derived.Test.YtgghmmjoplddbaaGreatDoorZLaCode
import Derived.Lib.ItoaLen
set_option linter.unusedSimpArgs false
set_option linter.unusedVariables false
set_option linter.unnecessarySimpa false
namespace Go.Proofs.YtgghmmjoplddbaaGreatDoor
open Go Go.Sx Go.Isa Go.Lint
set_option maxRecDepth 100000
def wrun:Nat→List In→St→St
 | 0,_,st=>st
 | n+1,cs,st=>match st.todo with
  | []=>st
  | s :: rest=>wrun n cs (stepW cs s ⟨st.met,rest,st.fs⟩)
theorem wrun_inv {cs:List In} (hlen:cs.length≤1024):∀ (n:Nat) (st:St),Inv cs st→Inv cs (wrun n cs st)
 | 0,_,h=>h
 | n+1,st,h=>by
  unfold wrun
  split
  ·exact h
  ·rename_i s rest ht
   exact wrun_inv hlen n _ (Inv.step hlen h ht)
theorem found_run {cs:List In} (hlen:cs.length≤1024) (n:Nat) (fs:List (Int × Int)) (ht:(wrun n cs st0).todo=[]) (hx:(wrun n cs st0).fs++ext78 (wrun n cs st0).met cs cs.length=fs) (hs:fs.Pairwise lt2):FoundOk cs fs:=by
 have hf:=(wrun_inv hlen n st0 (Inv.start cs)).fin ht
 refine⟨fun c p=>?_,hs⟩
 rw[← mem_found hf c p,mem_ddp,mem_srt,hx]
open Go.Asm
open Nat (reduceAdd reduceLT)
def nms:List B:=[[110,111,110,101],[105,108,108,101,103,97,108],[101,110,100],[98,101,103,105,110],[104,97,108,116],[111,117,116],[103,111,101,115],[117,110,115,101,116],[110,101,118,101,114]]
def nmsV:List Value:=nms.map fun s=>.string ⟨⟨s⟩⟩
def NmAt (w:World):Prop:=RowAt w (some ⟨1,0,none⟩) nmsV
def nmOf (c:Int):B:=nms.getD (if 0 < c∧c < 9 then c.toNat else 0) []
def txt (x:Int × Int):B:=(nmOf x.1++[32,97,116,32])++Lib.itoa x.2
theorem nm_get {c:Int} (h0:0 < c) (h1:c < 9):nmsV[0+c.toNat*1]? = some (.string ⟨⟨nmOf c⟩⟩):=by
 have:c=1∨c=2∨c=3∨c=4∨c=5∨c=6∨c=7∨c=8:=by omega
 rcases this with h | h | h | h | h | h | h | h <;> subst h <;> rfl
theorem nm_len (c:Int):(nmOf c).length≤7:=by
 by_cases h:0 < c∧c < 9
 ·have:c=1∨c=2∨c=3∨c=4∨c=5∨c=6∨c=7∨c=8:=by omega
  rcases this with h | h | h | h | h | h | h | h <;> subst h <;> decide
 ·unfold nmOf; rw[if_neg h]; decide
theorem text70 (x:Int × Int) (w:World) (h1:0 < x.1) (h2:x.1 < 9) (hp:is64 x.2) (hN:NmAt w) (hT:TabAt w):CallsV Tryz.prog 41 [.agg #[.int .i64 x.1,.int .i64 x.2]] w fun v w'=>v=.string ⟨⟨txt x⟩⟩∧Fresh w w':=by
 refine zj05 (keep:=K41) (nt:=24) (svs:=[.agg [.val (.int .i64 x.1),.val (.int .i64 x.2)]]) Tryz.func41 x41 n41 (by simp) (by simp[IsL,Is]) fun R hR=>?_
 (refine Y_go 600 ?_; dsimp only[go_sem,reduceAdd,Nat.reduceBEq,Int.reduceToNat,Nat.reduceMul])
 intro g
 refine⟨⟨by omega,by omega,rfl⟩,⟨⟨[110,111,110,101]⟩⟩,hN.cell rfl,fun _=>⟨fun _=>?_,fun h=>absurd (of_decide_eq_false h) (by omega)⟩,fun h=>absurd (of_decide_eq_false h) (by omega)⟩
 refine⟨⟨by omega,by omega,rfl⟩,⟨⟨nmOf x.1⟩⟩,hN.cell (nm_get h1 h2),by have:=nm_len x.1; first | (rw[zj04,zj04]; simp; omega) | (simp[ByteArray.size]; omega),?_⟩
 refine zj00 (vs:=[.int .i64 x.2]) rfl (fun W hW=>itoa41 x.2 W hp.1 hp.2 (hT.keep hW.fresh')) fun v hv=>⟨.val (.string ⟨⟨Lib.itoa x.2⟩⟩),by rw[hv]; simp[Is],?_⟩
 (refine Y_go 600 ?_; dsimp only[go_sem,Nat.reduceBEq])
 refine⟨by
  have:=nm_len x.1
  have h3:=Lib.itoa_length_le x.2 hp.1 hp.2
  first | (rw[zj0v,zj04,zj04]; simp; omega) | (simp[ByteArray.size]; omega),zj03 (vs:=[_]) r41 rfl rfl fun W hW=>hR _ _ ⟨?_,hW.fresh'⟩⟩
 rw[zj0v,zj0v]; rfl
theorem told36 (t:B) (l:List In) (lb:List (B × Nat)) (fs:List (Int × Int)) (ws:List B) (A:Option Addr) (c:Nat) (w:World) (ht:t.length≤40000) (ha:asmL t=(l,lb,0)) (hl:l.length≤1024) (hf:FoundOk l fs) (hfl:fs.length≤1000) (hfs:∀ x ∈ fs,0 < x.1∧x.1 < 9∧is64 x.2) (hw:fs.map txt=ws) (hA:RowAt w A (psV ws)) (hG:ShAt w) (hN:NmAt w) (hT:TabAt w) (hLb:LibAt w) :
  CallsV Tryz.prog 18 [.string ⟨⟨t⟩⟩,.slice A ws.length c] w fun v w'=>v=.bool true∧Fresh w w':=by
 refine zj05 (keep:=K18) (nt:=53) (svs:=[.val (.string ⟨⟨t⟩⟩),.val (.slice A ws.length c)]) Tryz.func18 x18 n18 (by simp) (by simp[IsL,Is]) fun R hR=>?_
 (refine Y_go 600 ?_; dsimp only[go_sem,reduceAdd,Nat.reduceBEq])
 refine zj0j (vs:=[.string ⟨⟨t⟩⟩]) rfl (R:=fun W v W'=>∃ (A:Option Addr) (c:Nat),v=.tuple #[.slice A l.length c,.int .i64 0,.int .i64 0]∧World.ownsB W' W.heap.size 47 5 (.slice A l.length c) l.length (cellsI l)∧Fresh W W') (fun W hW=>(assemble66 t W (by omega) (hG.keep hW.fresh') (hT.keep hW.fresh') (hLb.keep hW.fresh')).mono fun v w' h=>by rw[ha] at h; exact h) fun W v W' hW ⟨A1,c1,hv,ho,hk⟩=>?_
 obtain⟨A',c',e1,e2,e5,_⟩:=hW.gain ho hk
 injection e1 with e3 _ e4
 subst e3; subst e4; subst hv
 refine⟨.tup [.own 0 0,.val (.int .i64 0),.val (.int .i64 0)],_,?_,e2,e5,?_⟩
 ·simp only[Is,IsL]; exact⟨_,⟨_,_,⟨_,_,_,_,_,_,_,rfl,Nat.le_refl _,⟨_,_,_,rfl⟩,fun _=>rfl⟩,⟨_,_,rfl,⟨_,_,rfl,rfl,rfl⟩,rfl⟩,rfl⟩,rfl⟩
 clear e5 e2 hW ho hk
 (refine Y_go 600 ?_; dsimp only[go_sem,Nat.reduceBEq])
 refine zj0j (vs:=[.slice A1 l.length c1]) rfl (R:=fun W v W'=>∃ (A:Option Addr) (c:Nat),v=.tuple #[.slice A fs.length c,.int .i64 0]∧World.ownsB W' W.heap.size 33 2 (.slice A fs.length c) fs.length (fsV fs)∧Fresh W W') (fun W hW=>(look22F l A1 c1 W hl (hW.rowAt (i:=0) rfl) (hG.keep hW.fresh')).mono fun v w' h=>by
  obtain⟨A,c,gs,h1,h2,h3,h4⟩:=h
  obtain rfl:=h1.uniq hf
  exact⟨A,c,h2,h3,h4⟩) fun W v W' hW ⟨A2,c2,hv,ho,hk⟩=>?_
 obtain⟨A',c',e1,e2,e5,_⟩:=hW.gain ho hk
 injection e1 with e3 _ e4
 subst e3; subst e4; subst hv
 refine⟨.tup [.own 1 0,.val (.int .i64 0)],_,?_,e2,e5,?_⟩
 ·simp only[Is,IsL]; exact⟨_,⟨_,_,⟨_,_,_,_,_,_,_,rfl,Nat.le_refl _,⟨_,_,_,rfl⟩,fun _=>rfl⟩,⟨_,_,rfl,rfl,rfl⟩,rfl⟩,rfl⟩
 clear e5 e2 hW ho hk
 have hwl:ws.length=fs.length:=by rw[← hw,List.length_map]
 (refine Y_go 600 ?_; dsimp only[go_sem,Nat.reduceBEq])
 refine⟨fun h=>absurd h (by decide),fun _=>⟨fun h=>absurd h (by decide),fun _=>⟨fun h=>absurd h (by simp[hwl]),fun _=>?_⟩⟩⟩
 refine zj0m (α:=Nat) (fun i=>i≤fs.length) (fun _=>⟨w,w.heap.size,[],53,[]⟩) (fun i=>{ F:=[(1,.val (.slice A ws.length c)),(8,.own 1 0),(37,.val (.int .i64 fs.length)),(38,.val (.int .i64 (i:Int)))],H:=[.own 47 0 5 A1 l.length c1 (cellsI l),.own 33 0 2 A2 fs.length c2 (fsV fs)] }) (fun i=>fs.length - i) (fun _=>rfl) ?start ?round
 case start =>
  intro a W rep
  exact⟨0,Nat.zero_le _,rep.lq⟩
 case round =>
  intro i hi I again
  have hi:i≤fs.length:=hi
  (refine Y_go 600 ?_; dsimp only[go_sem,Nat.reduceBEq])
  refine⟨fun hlt=>?_,fun hge=>zj03 (vs:=[.bool true]) r18 rfl rfl fun W hW=>hR _ _ ⟨rfl,hW.fresh'⟩⟩
  have hlt:i < fs.length:=by have:=of_decide_eq_true hlt; omega
  have hx:fs[i]? = some fs[i]:=List.getElem?_eq_getElem hlt
  have hxr:=hfs _ (List.getElem_mem hlt)
  have hwi:ws[i]? = some (txt fs[i]):=by rw[← hw,List.getElem?_map,hx]; rfl
  generalize fs[i]=x at hx hxr hwi
  have hc:=fsV_get fs i _ hx
  have hi1:((i:Nat):Int).toNat=i:=by omega
  have hcw:CellAt ⟨w,w.heap.size,[],53,[]⟩ A (i*1) (.string ⟨⟨txt x⟩⟩):=hA.cell (by rw[Nat.mul_one]; unfold psV; rw[List.getElem?_map,hwi]; rfl)
  have sA:A.isSome=true:=hA.isSome (j:=i) (by unfold psV; rw[List.length_map]; omega)
  rw[hi1]
  refine⟨⟨by omega,by omega⟩,x.1,hc.1,x.2,hc.2,?_⟩
  refine zj00 (vs:=[.agg #[.int .i64 x.1,.int .i64 x.2]]) rfl (fun W hW=>text70 x W hxr.1 hxr.2.1 hxr.2.2 (hN.keep hW.fresh') (hT.keep hW.fresh')) fun v hv=>⟨.val (.string ⟨⟨txt x⟩⟩),by rw[hv]; simp[Is],?_⟩
  (refine Y_go 600 ?_; dsimp only[go_sem,Nat.reduceBEq])
  rw[hi1]
  refine⟨⟨by omega,by omega,sA⟩,_,hcw,fun hne=>?_,fun _=>⟨((i+1:Nat):Int),ArOk.to (by omega) (by omega) (by omega),zj01 fun a W rep=>again (i+1) (by show i+1≤_; omega) (by show fs.length - (i+1) < fs.length - i; omega) a W (rep.lq)⟩⟩
  rw[strNe] at hne
  exact absurd hne (by decide)
def ltT1:B:=[115,101,116,32,49,32,53,10,115,116,111,114,101,32,49,32,48,32,49,10,104,97,108,116]
def ltT2:B:=[98,101,103,105,110,10,98,101,103,105,110,10,101,110,100]
def lc1:List In:=[⟨2,1,0,0,5⟩,⟨12,1,0,0,1⟩,⟨1,0,0,0,0⟩]
def lc2:List In:=[⟨17,0,0,0,0⟩,⟨17,0,0,0,0⟩,⟨18,0,0,0,0⟩]
theorem ltT1_is:asmL ltT1=(lc1,[],0):=by kernel_rfl
theorem ltT2_is:asmL ltT2=(lc2,[],0):=by kernel_rfl
theorem lf1:FoundOk lc1 [(7,1)]:=found_run (by decide) 20 _ (by kernel_rfl) (by kernel_rfl) (by simp)
theorem lf2:FoundOk lc2 [(3,1),(8,2)]:=found_run (by decide) 20 _ (by kernel_rfl) (by kernel_rfl) (by simp[lt2])
def lw1:List B:=[[117,110,115,101,116,32,97,116,32,49]]
def lw2:List B:=[[98,101,103,105,110,32,97,116,32,49],[110,101,118,101,114,32,97,116,32,50]]
theorem lw1_is:[((7:Int),(1:Int))].map txt=lw1:=by kernel_rfl
theorem lw2_is:[((3:Int),(1:Int)),(8,2)].map txt=lw2:=by kernel_rfl
theorem alive20 (w:World) (hG:ShAt w) (hN:NmAt w) (hT:TabAt w) (hLb:LibAt w):CallsV Tryz.prog 6 [] w fun v w'=>v=.bool true∧Fresh w w':=by
 refine zj05 (keep:=K6) (nt:=7) (svs:=[]) Tryz.func6 x6 n6 (by simp) (by simp[IsL]) fun R hR=>?_
 (refine Y_go 600 ?_; dsimp only[go_sem,Nat.reduceBEq,Nat.reduceMul])
 intro g
 have cells1:∀ {W:World},HeapOk ⟨w,w.heap.size,[],7,[]⟩ [.cells g 9 [.val (.string ⟨⟨[117,110,115,101,116,32,97,116,32,49]⟩⟩)]] W→RowAt W (some ⟨g,0,none⟩) (psV lw1):=fun hW=>hW.cellsAt (i:=0) rfl rfl
 refine zj00 (vs:=[.string ⟨⟨ltT1⟩⟩,.slice (some ⟨g,0,none⟩) 1 1]) rfl (fun W hW=>told36 ltT1 lc1 [] [(7,1)] lw1 (some ⟨g,0,none⟩) 1 W (by decide) ltT1_is (by decide) lf1 (by decide) (by simp[is64]) lw1_is (cells1 hW) (hG.keep hW.fresh') (hN.keep hW.fresh') (hT.keep hW.fresh') (hLb.keep hW.fresh')) fun v hv=>⟨.bt,by rw[hv]; simp[Is],?_⟩
 (refine Y_go 600 ?_; dsimp only[go_sem,Nat.reduceBEq,Nat.reduceMul,reduceAdd])
 intro g2
 have cells2:∀ {W:World} {e:SO},HeapOk ⟨w,w.heap.size,[],7,[]⟩ [e,.cells g2 9 [.val (.string ⟨⟨[98,101,103,105,110,32,97,116,32,49]⟩⟩),.val (.string ⟨⟨[110,101,118,101,114,32,97,116,32,50]⟩⟩)]] W→RowAt W (some ⟨g2,0,none⟩) (psV lw2):=fun hW=>hW.cellsAt (i:=1) rfl rfl
 refine zj00 (vs:=[.string ⟨⟨ltT2⟩⟩,.slice (some ⟨g2,0,none⟩) 2 2]) rfl (fun W hW=>told36 ltT2 lc2 [] [(3,1),(8,2)] lw2 (some ⟨g2,0,none⟩) 2 W (by decide) ltT2_is (by decide) lf2 (by decide) (by simp[is64]) lw2_is (cells2 hW) (hG.keep hW.fresh') (hN.keep hW.fresh') (hT.keep hW.fresh') (hLb.keep hW.fresh')) fun v hv=>⟨.bt,by rw[hv]; simp[Is],?_⟩
 (refine Y_go 600 ?_; dsimp only[go_sem,Nat.reduceBEq])
 exact zj03 (vs:=[.bool true]) r6 rfl rfl fun W hW=>hR _ _ ⟨rfl,hW.fresh'⟩
end Go.Proofs.YtgghmmjoplddbaaGreatDoor
