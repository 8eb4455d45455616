/- 'shuntlaw22.OptSame' answers true for every text: the row, and its tied card. No condition but what the row lists (the tables of isa and strconv, strconv's errors, as the programs' texts lay them). -/
import Derived.Test.YtgghmmjoplddbaaGreatDoorZBgDoor
import Derived.ChangeMaps5
import Derived.Stop.LaidErr
import Derived.Shelf.Vars
import Derived.Lib.LaidTab
import Derived.Test.YtgghmmjoplddbaaGreatDoorZSoW5
set_option linter.unusedSimpArgs false
set_option linter.unusedVariables false
set_option linter.unnecessarySimpa false
namespace Go.Proofs.YtgghmmjoplddbaaGreatDoor
open Go Go.ChangeShapes Go.WideShapes Go.ChangeAt Go.RowKit Go.Deep Go.Sx Go.Isa
set_option maxRecDepth 100000
def theLaid : List (String × DataW Unit) := [("math/bits.deBruijn32tab", Rows.laid_math_bits_deBruijn32tab), ("math/bits.deBruijn64tab", Rows.laid_math_bits_deBruijn64tab), ("internal/strconv.uint64pow10", Rows.laid_internal_strconv_uint64pow10), ("unicode/utf8.acceptRanges", Rows.laid_unicode_utf8_acceptRanges), ("strconv.ErrRange", Rows.laid_strconv_ErrRange), ("strconv.ErrSyntax", Rows.laid_strconv_ErrSyntax), ("shunt/isa.shapes", Rows.laid_shunt_isa_shapes), ("unicode/utf8.first", Rows.laid_unicode_utf8_first)]
theorem tab_of_laid {w:World} (h:laidMetH Tryz.prog theLaid w):TabAt w:=by
 have h1 := h.filter fun x => x.1 == "internal/strconv.uint64pow10"
 rw [show (theLaid.filter fun x => x.1 == "internal/strconv.uint64pow10") = [("internal/strconv.uint64pow10", Lib.tabData .u64 Lib.pow10Tab)] by kernel_rfl, MakeChecks.laidMetH_plain _ _ _ (by kernel_rfl)] at h1
 exact Lib.tabIs_of_head (n:=20) (e:=23) gTab (by kernel_rfl) Tryz.underlying242 Tryz.underlying23 (by kernel_rfl) (by kernel_rfl) h1
theorem star_err : "*" ++ "errors.errorString" = "*errors.errorString" := by decide
theorem row_err (u : TypeId) (h : Tryz.prog.typeName? 3 u = some "*errors.errorString") : u = 272 :=
 typeName_ptr_named (nm := "errors.errorString") (by rw [star_err]; kernel_rfl) (by kernel_rfl) (by decide) u (by rw [star_err]; exact h)
theorem syn_of_laid {w:World} (h:laidMetH Tryz.prog theLaid w):∃ t p,w.cell? ⟨6,0,none⟩=some (.iface t p):=by
 have h1 := h.filter fun x => x.1 == "strconv.ErrSyntax"
 rw [show (theLaid.filter fun x => x.1 == "strconv.ErrSyntax") = [("strconv.ErrSyntax", Rows.laid_strconv_ErrSyntax)] by kernel_rfl, MakeChecks.laidMetH_plain _ _ _ (by kernel_rfl)] at h1
 obtain⟨a0,s0,hv0,-,-,-⟩:=laid_sentinel (ti:=215) (g:=6) h1 (by kernel_rfl) (by kernel_rfl) Tryz.underlying215 row_err Tryz.underlying272 Tryz.underlying274 rfl rfl Tryz.underlying9 (by kernel_rfl) (by kernel_rfl)
 exact⟨_,_,by have h0:=World.var?_cell (g:=6) (by kernel_rfl) hv0 0; simpa using h0⟩
theorem rng_of_laid {w:World} (h:laidMetH Tryz.prog theLaid w):∃ t p,w.cell? ⟨7,0,none⟩=some (.iface t p):=by
 have h1 := h.filter fun x => x.1 == "strconv.ErrRange"
 rw [show (theLaid.filter fun x => x.1 == "strconv.ErrRange") = [("strconv.ErrRange", Rows.laid_strconv_ErrRange)] by kernel_rfl, MakeChecks.laidMetH_plain _ _ _ (by kernel_rfl)] at h1
 obtain⟨a0,s0,hv0,-,-,-⟩:=laid_sentinel (ti:=215) (g:=7) h1 (by kernel_rfl) (by kernel_rfl) Tryz.underlying215 row_err Tryz.underlying272 Tryz.underlying274 rfl rfl Tryz.underlying9 (by kernel_rfl) (by kernel_rfl)
 exact⟨_,_,by have h0:=World.var?_cell (g:=7) (by kernel_rfl) hv0 0; simpa using h0⟩
theorem lib_of {w:World} (h:laidMetH Tryz.prog theLaid w) (hs:w.ShapedOpen Tryz.prog):LibAt w :=
 ⟨cell_of_shapedOpen_int (zero:=#[.int .i64 0]) (t:=3) hs (of_decide_eq_true (by kernel_rfl)) (by kernel_rfl) rfl (by kernel_rfl) (by kernel_rfl) Tryz.underlying3,syn_of_laid h,rng_of_laid h⟩
theorem l12 {α:Type} {l:List α} (h:l.length=12):∃ a b c d e f g i j k m n,l=[a,b,c,d,e,f,g,i,j,k,m,n]:=by
 match l,h with
 | [a,b,c,d,e,f,g,i,j,k,m,n],_=>exact⟨a,b,c,d,e,f,g,i,j,k,m,n,rfl⟩
theorem open_ask {H:Type} {enc:TypeId × Value→H} {W:World} {base:Nat} {v1:Value} {d1:DataW H} {p1:List MemPlace} (hval:Value.okWide Tryz.prog W .any base 50 v1) (h1:DataW.Trod enc Tryz.prog W 0 (fun _=>true) true 50 v1 d1 p1) :
  ∃ (B:Option Addr) (bc:Nat) (l:List In) (rs:List Int) (pc:Int) (WA:Option Addr) (wc:Nat) (ws:List Int) (steps:Int),v1=.agg (Value.slice B l.length bc :: (rs.map uV++[.int .i64 pc,.slice WA ws.length wc,.int .i64 steps])).toArray ∧
   RowAt W B (cellsI l)∧RowAt W WA (usV ws)∧rs.length=8∧(∀ v ∈ rs,isU v)∧∀ v ∈ ws,isU v:=by
 simp only[Value.okWide,Tryz.underlying50] at hval
 obtain⟨cs,rfl,hcs,_⟩:=hval
 obtain⟨fuel,hf⟩:=h1
 obtain⟨xs,n,_,_,hlen,hxl,hj⟩:=DataW.trod_struct Tryz.underlying50 hf
 have g:∀ i,i < 5→∃ y,xs[i]? = some y:=fun i hi=>⟨_,List.getElem?_eq_getElem (by rw[hxl]; exact hi)⟩
 have hlen:cs.toList.length=12:=hlen.trans (by kernel_rfl)
 have c22:Tryz.prog.cellsOf 22=1:=by kernel_rfl
 have c24:Tryz.prog.cellsOf 24=8:=by kernel_rfl
 have c3:Tryz.prog.cellsOf 3=1:=by kernel_rfl
 have c26:Tryz.prog.cellsOf 26=1:=by kernel_rfl
 obtain⟨y0,e0⟩:=g 0 (by omega)
 obtain⟨y1,e1⟩:=g 1 (by omega)
 obtain⟨y2,e2⟩:=g 2 (by omega)
 obtain⟨y3,e3⟩:=g 3 (by omega)
 obtain⟨y4,e4⟩:=g 4 (by omega)
 have f0:=(hj 0 _ rfl).trans e0
 have f1:=(hj 1 _ rfl).trans e1
 have f2:=(hj 2 _ rfl).trans e2
 have f3:=(hj 3 _ rfl).trans e3
 have f4:=(hj 4 _ rfl).trans e4
 change DataW.trod enc Tryz.prog W 0 (fun _=>true) true n 22 ((cs.toList.drop 0).take (Tryz.prog.cellsOf 22))=_ at f0
 change DataW.trod enc Tryz.prog W 0 (fun _=>true) true n 24 ((cs.toList.drop 1).take (Tryz.prog.cellsOf 24))=_ at f1
 change DataW.trod enc Tryz.prog W 0 (fun _=>true) true n 3 ((cs.toList.drop 9).take (Tryz.prog.cellsOf 3))=_ at f2
 change DataW.trod enc Tryz.prog W 0 (fun _=>true) true n 26 ((cs.toList.drop 10).take (Tryz.prog.cellsOf 26))=_ at f3
 change DataW.trod enc Tryz.prog W 0 (fun _=>true) true n 3 ((cs.toList.drop 11).take (Tryz.prog.cellsOf 3))=_ at f4
 rw[c22] at f0; rw[c24] at f1; rw[c3] at f2; rw[c26] at f3; rw[c3] at f4
 have ecs:cs=cs.toList.toArray:=by simp
 generalize hL:cs.toList=L at *
 obtain⟨x0,x1,x2,x3,x4,x5,x6,x7,x8,x9,x10,x11,rfl⟩:=l12 hlen
 simp only[List.drop_succ_cons,List.drop_zero,List.take_succ_cons,List.take_zero] at f0 f1 f2 f3 f4
 obtain⟨B,bc,l,hx0,_,hB,_⟩:=Dk.open_rows' (f:=In.cells) (Q:=fun _=>True) 3 Tryz.underlying22 (L:=[.i64,.i64,.i64,.i64,.i64]) (by kernel_rfl) (by kernel_rfl) (fun _=>rfl) (fun cs hk=>by
  simp only[Dk.Ks] at hk
  obtain⟨a,_,rfl,_,b,_,rfl,_,c,_,rfl,_,d,_,rfl,_,e,_,rfl,_,rfl⟩:=hk
  exact⟨⟨a,b,c,d,e⟩,rfl,trivial⟩) f0
 obtain⟨WA,wc,ws,hx10,_,hW,hwU⟩:=Dk.open_rows' (f:=fun n:Int=>[uV n]) (Q:=isU) 1 Tryz.underlying26 (L:=[.u64]) (by kernel_rfl) (by kernel_rfl) (fun _=>rfl) (fun cs hk=>by
  simp only[Dk.Ks] at hk
  obtain⟨a,_,rfl,h,rfl⟩:=hk
  exact⟨a,rfl,Dk.wfU h⟩) f3
 obtain⟨pc,hx9,_,_⟩:=DataW.trod_int Tryz.underlying3 f2
 obtain⟨steps,hx11,_,_⟩:=DataW.trod_int Tryz.underlying3 f4
 obtain⟨hk,_⟩:=Dk.trod_ints 3 24 n _ [.u64,.u64,.u64,.u64,.u64,.u64,.u64,.u64] _ (by kernel_rfl) f1
 simp only[Dk.Ks] at hk
 obtain⟨a0,_,k0,h0,a1,_,rfl,h1,a2,_,rfl,h2,a3,_,rfl,h3,a4,_,rfl,h4,a5,_,rfl,h5,a6,_,rfl,h6,a7,_,rfl,h7,rfl⟩:=hk
 simp only[List.cons.injEq,and_true] at k0 hx0 hx9 hx10 hx11
 obtain⟨rfl,rfl,rfl,rfl,rfl,rfl,rfl,rfl⟩:=k0
 subst hx0; subst hx9; subst hx10; subst hx11
 refine⟨B,bc,l,[a0,a1,a2,a3,a4,a5,a6,a7],pc,WA,wc,ws,steps,by rw[ecs]; rfl,hB,?_,rfl,?_,hwU⟩
 ·have e:∀ l:List Int,l.flatMap (fun n:Int=>[uV n])=usV l:=fun l=>by
   induction l with
   | nil=>rfl
   | cons a l ih=>rw[List.flatMap_cons,ih]; rfl
  rw[e] at hW; exact hW
 ·simp only[List.forall_mem_cons,List.not_mem_nil,false_implies,implies_true,and_true]
  exact⟨Dk.wfU h0,Dk.wfU h1,Dk.wfU h2,Dk.wfU h3,Dk.wfU h4,Dk.wfU h5,Dk.wfU h6,Dk.wfU h7⟩
section
variable {H:Type} {enc:TypeId × Value→H}
theorem returns_shaped {a:Assume} {C:Checked} {os:Os} {f:FuncId} {fn:Func} {s:ChangeSpec} {conds:List PathCond} {apart fresh handsOn again:Bool} {X:World→Array Value→Prop}
  (hX:∀ (w w':World) (args:Array Value),w.heap=w'.heap→X w args→X w' args)
  (own:ownKnob C.prog.godebug=none) (started:os.Started) (noInit:C.prog.inits.idxOf? f=none) (hfn:C.prog.funcs[f]? = some fn)
  (witness:∃ (w:World) (tape:Tape) (i:Input),w.os=os∧(w.forCall tape i).Shaped C.prog∧i.vars=[]∧Input.okWide C.prog (w.forCall tape i) .any w.heap.size f i ∧
   ((s.pre enc C.prog fn conds apart (w.forCall tape i).memory i.args∧X (w.forCall tape i).memory i.args)∧sizedMet enc C.prog fn (OpenSpec.ofChange s) apart (w.forCall tape i).memory i.args)∧a.holds C.prog (lone (Frame.enter C.prog f i.args .normal) [] (w.forCall tape i)))
  (contract:∀ (W:World) (base:Nat) (args:Array Value) (ds gs:List (DataW H)) (before:List MemPlace),
   (∀ (j:Nat) t v,fn.params[j]? = some t→args[j]? = some v→Value.okWide C.prog W .any base t v) →
   DataW.Whole enc C.prog fn.params.toList s.vars apart W args.toList ds gs before→X W args→W.ShapedOpen C.prog →
   Calls C.prog f args W fun e W'=>∃ v,e=.returned v∧s.post enc C.prog fn apart fresh handsOn again W args v W') :
  ReturnsInHanded a C os f .any (fun w args=>(s.pre enc C.prog fn conds apart w args∧X w args)∧sizedMet enc C.prog fn (OpenSpec.ofChange s) apart w args) (s.post enc C.prog fn apart fresh handsOn again):=by
 refine returnsInHanded_of_calls own started noInit witness ?_
 intro w tape i _ hsh _ hok hpre hholds
 obtain⟨_,_,_,fn',hfn',_,_,_,_,hval⟩:=hok
 have e:fn'=fn:=Option.some.inj (hfn'.symm.trans hfn)
 subst e
 obtain⟨⟨⟨ds,gs,before,hw,hc⟩,hx⟩,hz⟩:=hpre
 have hw':=DataW.Whole.of_heap (w':=w.forCall tape i) (by rfl) hw
 refine (contract (w.forCall tape i) w.heap.size i.args ds gs before hval hw' (hX _ _ _ (by rfl) hx) hsh).mono fun e W' ⟨v,he,hp⟩=>?_
 subst he
 exact ChangeSpec.post_blind hp
end
theorem optSame_lifted (os:Os) (started:os.Started) (H:Type) (enc:TypeId × Value→H) :
  ReturnsInHanded {} Tryz.checked os 5 .any (fun w args=>(Rows.optSameSpec.pre enc Tryz.prog Tryz.f5 [] false w args∧laidMetH Tryz.prog theLaid w)∧sizedMet enc Tryz.prog Tryz.f5 (OpenSpec.ofChange Rows.optSameSpec) false w args)
   (Rows.optSameSpec.post enc Tryz.prog Tryz.f5 false true false false):=by
 refine returns_shaped (C:=Tryz.checked) (X:=fun w _=>laidMetH Tryz.prog theLaid w) (fun _ _ _ hh h=>h.of_heap hh) Tryz.own started (by kernel_rfl) Tryz.func5
  (ChangeSpec.witness_shaped (enc:=enc) (C:=Tryz.checked) (os:=os) (X:=fun w _=>laidMetH Tryz.prog theLaid w) false (World.laidAll Tryz.prog os theLaid) #[.agg #[.slice none 0 0,.int .u64 0,.int .u64 0,.int .u64 0,.int .u64 0,.int .u64 0,.int .u64 0,.int .u64 0,.int .u64 0,.int .i64 0,.slice none 0 0,.int .i64 0]] 8 (World.laidAll_os _ _ _)
   (World.shaped_of_ZipB (by kernel_rfl) (by kernel_rfl)) (by kernel_rfl) (by kernel_rfl) (by kernel_rfl)
   (by rw[MakeChecks.laidMetH_plain _ _ _ (by kernel_rfl)]; exact laidMet_laidAll _ (by kernel_rfl) (by kernel_rfl))) ?_
 intro W base args ds gs before hval0 hW hL hsh
 have hval:∀ (j:Nat) t v,Tryz.f5.params[j]? = some t→args[j]? = some v→Value.okWide Tryz.prog W .any base t v:=hval0
 have hW':=hW
 obtain⟨p,q,hA0,hV,rfl,hfz,hnd⟩:=hW
 have hA:DataW.TrodAll enc Tryz.prog W 0 (fun _=>true) true Tryz.f5.params.toList args.toList ds p:=hA0
 rw[Tryz.params5] at hA hval
 obtain⟨v1,d1,rfl,rfl,h1⟩:=trodAll_one hA
 obtain⟨rfl,rfl⟩:=trodVars_none hV
 clear hA0 hval0
 simp only[List.append_nil] at hW'
 have hlt:∀ x ∈ p,x.block < W.heap.size:=fun x hx=>hW'.lt x hx
 obtain⟨B,bc,l,rs,pc,WA,wc,ws,steps,rfl,hB,hWs,h8,hU,hwU⟩:=open_ask (hval 0 50 v1 rfl rfl) h1
 have hG:=sh_of_laid hL (by kernel_rfl)
 have hT:=tab_of_laid hL
 have hL2:=lib_of hL hsh
 refine Calls.mono (law5 B WA bc wc l ws rs pc steps W hG hT hL2 hB hWs h8 hU hwU) fun e W' he=>?_
 cases e with
 | panicked ch=>exact he.elim
 | outgrown=>exact he.elim
 | returned v =>
  obtain⟨hk,rfl⟩:=he
  have hb:Below W.heap.size W W':=⟨hk.os,hk.tape,hk.output,hk.size,hk.block⟩
  exact⟨_,rfl,post_of_below (pa:=p) (pv:=[]) hW' (fun _ _ _=>trodAll_mk1 (shut_bool Tryz.underlying4 true))
   (fun sp hsp=>trodAll_mk1 (WideElems.Trod_stays Tryz.laidOut (by kernel_rfl) (of_decide_eq_true (by kernel_rfl)) h1 (fun x hx=>hb.same (hlt x hx)) (fun x hx=>hsp x hx)))
   (fun _ _=>rfl) (by simp) hb (ok_one (by kernel_rfl) rfl (okWide_bool_mk Tryz.underlying4 true))⟩
theorem optSame_row:Rows.OptSameSaid :=
 OpenClaim.holds_of_wide 5 Tryz.f5 rfl rfl rfl rfl rfl rfl rfl ⟨rfl,rfl,rfl,rfl,rfl⟩ rfl rfl rfl rfl rfl (by kernel_rfl) Tryz.func5 (by kernel_rfl)
  (of_decide_eq_true (by kernel_rfl)) (by unfold Func.isWrapper; first | (rw[if_pos (by decide +kernel)]; kernel_rfl) | (rw[if_neg (by decide +kernel)]; exact⟨rfl,rfl⟩))
  (fun os started H enc _=>optSame_lifted os started H enc)
theorem optSame_holds:Rows.OptSameCardSaid :=
 Claim7.holds_tied_plain_at .later [] [.data, .data, .data, .data, .sentinel, .sentinel, .data, .pinned] true (true, "cb4dd7f87a8124daed8876b7ddac4451f57a0686259645a685fb585fd3199a76") true
  optSame_row (fun _ h=>by cases h) (by kernel_rfl) (fun _ h=>by cases h) optSame_row_tie rfl ⟨rfl,rfl⟩ (by kernel_rfl) rfl
  (fun f fn hf hfn=>by
   obtain rfl : f = 5 := Option.some.inj ((show Tryz.prog.funcNamed "shunt/shuntlaw22.OptSame" = some 5 by kernel_rfl).symm.trans hf) |>.symm
   obtain rfl:fn=Tryz.f5:=(Option.some.inj (Tryz.func5.symm.trans hfn)).symm
   exact⟨by kernel_rfl,fun j t ht=>by
    rw[Tryz.params5] at ht
    have hm:t ∈ [50]:=by simpa using Array.mem_of_getElem? ht
    have hall:([50].all fun u=>!Tryz.prog.wantsStandIn u)=true:=by kernel_rfl
    exact (show Tryz.prog.wantsStandIn t=false by simpa using List.all_eq_true.1 hall t hm)⟩)
  (by kernel_rfl)
end Go.Proofs.YtgghmmjoplddbaaGreatDoor
