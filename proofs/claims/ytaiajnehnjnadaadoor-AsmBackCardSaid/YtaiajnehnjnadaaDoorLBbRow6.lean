/- 'shuntlaw15.AsmBack' answers true for every list: the row, and its tied card. No condition but what the row lists (the tables of isa and strconv, strconv's errors, as the programs' texts lay them). -/
import Derived.Test.YtaiajnehnjnadaaDoorLDoor
import Derived.ChangeMaps5
import Derived.Stop.LaidErr
import Derived.Shelf.Vars
import Derived.Lib.LaidTab
import Derived.Test.YtaiajnehnjnadaaDoorLBbW
set_option linter.unusedSimpArgs false
set_option linter.unusedVariables false
set_option linter.unnecessarySimpa false
namespace Go.Proofs.YtaiajnehnjnadaaDoor
open Go Go.ChangeShapes Go.WideShapes Go.ChangeAt Go.RowKit Go.Deep Go.Sx Go.Isa
set_option maxRecDepth 100000
def theLaid : List (String × DataW Unit) := [("math/bits.deBruijn32tab", Rows.laid_math_bits_deBruijn32tab), ("math/bits.deBruijn64tab", Rows.laid_math_bits_deBruijn64tab), ("internal/strconv.uint64pow10", Rows.laid_internal_strconv_uint64pow10), ("unicode/utf8.acceptRanges", Rows.laid_unicode_utf8_acceptRanges), ("strconv.ErrRange", Rows.laid_strconv_ErrRange), ("strconv.ErrSyntax", Rows.laid_strconv_ErrSyntax), ("shunt/isa.shapes", Rows.laid_shunt_isa_shapes), ("unicode/utf8.first", Rows.laid_unicode_utf8_first)]
theorem tab_of_laid {w:World} (h:laidMetH Tryd.prog theLaid w):TabAt w:=by
 have h1 := h.filter fun x => x.1 == "internal/strconv.uint64pow10"
 rw [show (theLaid.filter fun x => x.1 == "internal/strconv.uint64pow10") = [("internal/strconv.uint64pow10", Lib.tabData .u64 Lib.pow10Tab)] by kernel_rfl, MakeChecks.laidMetH_plain _ _ _ (by kernel_rfl)] at h1
 exact Lib.tabIs_of_head (n:=20) (e:=101) gTab (by kernel_rfl) Tryd.underlying118 Tryd.underlying101 (by kernel_rfl) (by kernel_rfl) h1
theorem star_err : "*" ++ "errors.errorString" = "*errors.errorString" := by decide
theorem row_err (u : TypeId) (h : Tryd.prog.typeName? 3 u = some "*errors.errorString") : u = 155 :=
 typeName_ptr_named (nm := "errors.errorString") (by rw [star_err]; kernel_rfl) (by kernel_rfl) (by decide) u (by rw [star_err]; exact h)
theorem syn_of_laid {w:World} (h:laidMetH Tryd.prog theLaid w):∃ t p,w.cell? ⟨7,0,none⟩=some (.iface t p):=by
 have h1 := h.filter fun x => x.1 == "strconv.ErrSyntax"
 rw [show (theLaid.filter fun x => x.1 == "strconv.ErrSyntax") = [("strconv.ErrSyntax", Rows.laid_strconv_ErrSyntax)] by kernel_rfl, MakeChecks.laidMetH_plain _ _ _ (by kernel_rfl)] at h1
 obtain⟨a0,s0,hv0,-,-,-⟩:=laid_sentinel (ti:=50) (g:=7) h1 (by kernel_rfl) (by kernel_rfl) Tryd.underlying50 row_err Tryd.underlying155 Tryd.underlying157 rfl rfl Tryd.underlying9 (by kernel_rfl) (by kernel_rfl)
 exact⟨_,_,by have h0:=World.var?_cell (g:=7) (by kernel_rfl) hv0 0; simpa using h0⟩
theorem rng_of_laid {w:World} (h:laidMetH Tryd.prog theLaid w):∃ t p,w.cell? ⟨8,0,none⟩=some (.iface t p):=by
 have h1 := h.filter fun x => x.1 == "strconv.ErrRange"
 rw [show (theLaid.filter fun x => x.1 == "strconv.ErrRange") = [("strconv.ErrRange", Rows.laid_strconv_ErrRange)] by kernel_rfl, MakeChecks.laidMetH_plain _ _ _ (by kernel_rfl)] at h1
 obtain⟨a0,s0,hv0,-,-,-⟩:=laid_sentinel (ti:=50) (g:=8) h1 (by kernel_rfl) (by kernel_rfl) Tryd.underlying50 row_err Tryd.underlying155 Tryd.underlying157 rfl rfl Tryd.underlying9 (by kernel_rfl) (by kernel_rfl)
 exact⟨_,_,by have h0:=World.var?_cell (g:=8) (by kernel_rfl) hv0 0; simpa using h0⟩
theorem lib_of {w:World} (h:laidMetH Tryd.prog theLaid w) (hs:w.ShapedOpen Tryd.prog):LibAt w :=
 ⟨cell_of_shapedOpen_int (zero:=#[.int .i64 0]) (t:=3) hs (of_decide_eq_true (by kernel_rfl)) (by kernel_rfl) rfl (by kernel_rfl) (by kernel_rfl) Tryd.underlying3,syn_of_laid h,rng_of_laid h⟩
theorem in_64 {l:List Value} (h:Dk.Ks [.i64,.i64,.i64,.i64,.i64] l):∃ x:In,l=x.cells∧in64 x:=by
 have wf:∀ n:Int,(Lit.int .i64 n).wf=true→is64 n:=by
  intro n h
  simp[Lit.wf,IntKind.min,IntKind.max,IntKind.signed,IntKind.bits] at h
  unfold is64; omega
 simp only[Dk.Ks] at h
 obtain⟨z0,l0,rfl,w0,z1,l1,rfl,w1,z2,l2,rfl,w2,z3,l3,rfl,w3,z4,l4,rfl,w4,rfl⟩:=h
 exact⟨⟨z0,z1,z2,z3,z4⟩,rfl,wf _ w0,wf _ w1,wf _ w2,wf _ w3,wf _ w4⟩
theorem open_prog64 {H:Type} {enc:TypeId × Value→H} {W:World} {base:Nat} {v1:Value} {d1:DataW H} {p1:List MemPlace} (hval:Value.okWide Tryd.prog W .any base 22 v1) (h1:DataW.Trod enc Tryd.prog W 0 (fun _=>true) true 22 v1 d1 p1)
  (hw:∀ n ∈ d1.weights Tryd.prog 22,n≤reachBytes):∃ (A:Option Addr) (c:Nat) (l:List In),v1=.slice A l.length c∧RowAt W A (cellsI l)∧(∀ x ∈ l,in64 x)∧l.length*40≤140737488355328:=by
 obtain⟨A,c,l,rfl,_,hr,hq⟩:=Dk.open_rows (f:=In.cells) (Q:=in64) (L:=[.i64,.i64,.i64,.i64,.i64]) 3 Tryd.underlying22 (by kernel_rfl) (by kernel_rfl) (fun _=>rfl) (fun cs h=>in_64 h) hval h1
 refine⟨A,c,l,rfl,hr,hq,?_⟩
 obtain⟨fuel,hf⟩:=h1
 rcases open_slice Tryd.underlying22 hf with⟨e,_⟩ | ⟨a,len,cap,m,n,D,Pl,hcs,_,_,_,_,hx,_⟩
 ·simp only[Value.cells,List.cons.injEq,Value.slice.injEq,and_true] at e
  omega
 ·simp only[Value.cells,List.cons.injEq,Value.slice.injEq,and_true] at hcs
  obtain⟨_,e,_⟩:=hcs
  have hd:=congrArg Prod.fst hx
  simp only at hd
  subst hd
  have:=hw ((((List.range len).map D).length+((List.range (m - len)).map fun j=>D (len+j)).length)*Tryd.prog.bytesOf 43) (by rw[DataW.weights,Tryd.underlying22]; exact List.mem_cons_self)
  rw[show Tryd.prog.bytesOf 43=40 by kernel_rfl] at this
  simp only[List.length_map,List.length_range,reachBytes] at this
  omega
section
variable {H:Type} {enc:TypeId × Value→H}
theorem returns_shaped {a:Assume} {C:Checked} {os:Os} {f:FuncId} {fn:Func} {s:ChangeSpec} {conds:List PathCond} {apart fresh handsOn again:Bool} {X:World→Array Value→Prop}
  (hX:∀ (w w':World) (args:Array Value),w.heap=w'.heap→X w args→X w' args)
  (own:ownKnob C.prog.godebug=none) (started:os.Started) (noInit:C.prog.inits.idxOf? f=none) (hfn:C.prog.funcs[f]? = some fn)
  (witness:∃ (w:World) (tape:Tape) (i:Input),w.os=os∧(w.forCall tape i).Shaped C.prog∧i.vars=[]∧Input.okWide C.prog (w.forCall tape i) .any w.heap.size f i ∧
   ((s.pre enc C.prog fn conds apart (w.forCall tape i).memory i.args∧X (w.forCall tape i).memory i.args)∧sizedMet enc C.prog fn (OpenSpec.ofChange s) apart (w.forCall tape i).memory i.args)∧a.holds C.prog (lone (Frame.enter C.prog f i.args .normal) [] (w.forCall tape i)))
  (contract:∀ (W:World) (base:Nat) (args:Array Value) (ds gs:List (DataW H)) (before:List MemPlace),
   (∀ (j:Nat) t v,fn.params[j]? = some t→args[j]? = some v→Value.okWide C.prog W .any base t v) →
   DataW.Whole enc C.prog fn.params.toList s.vars apart W args.toList ds gs before→(DataW.weightsEach C.prog (fn.params.toList++(OpenSpec.ofChange s).bare.plain.varTypes C.prog) (ds++gs)).all (·≤reachBytes)=true→X W args→W.ShapedOpen C.prog →
   Calls C.prog f args W fun e W'=>∃ v,e=.returned v∧s.post enc C.prog fn apart fresh handsOn again W args v W') :
  ReturnsInHanded a C os f .any (fun w args=>(s.pre enc C.prog fn conds apart w args∧X w args)∧sizedMet enc C.prog fn (OpenSpec.ofChange s) apart w args) (s.post enc C.prog fn apart fresh handsOn again):=by
 refine returnsInHanded_of_calls own started noInit witness ?_
 intro w tape i _ hsh _ hok hpre hholds
 obtain⟨_,_,_,fn',hfn',_,_,_,_,hval⟩:=hok
 have e:fn'=fn:=Option.some.inj (hfn'.symm.trans hfn)
 subst e
 obtain⟨⟨_,hx⟩,_,ds,gs,before,hw,hz⟩:=hpre
 have hw':=DataW.Whole.of_heap (w':=w.forCall tape i) (by rfl) hw
 refine (contract (w.forCall tape i) w.heap.size i.args ds gs before hval hw' hz (hX _ _ _ (by rfl) hx) hsh).mono fun e W' ⟨v,he,hp⟩=>?_
 subst he
 exact ChangeSpec.post_blind hp
end
theorem asmBack_lifted (os:Os) (started:os.Started) (H:Type) (enc:TypeId × Value→H) :
  ReturnsInHanded {} Tryd.checked os 6 .any (fun w args=>(Rows.asmBackSpec.pre enc Tryd.prog Tryd.f6 [] false w args∧laidMetH Tryd.prog theLaid w)∧sizedMet enc Tryd.prog Tryd.f6 (OpenSpec.ofChange Rows.asmBackSpec) false w args)
   (Rows.asmBackSpec.post enc Tryd.prog Tryd.f6 false true false false):=by
 refine returns_shaped (C:=Tryd.checked) (X:=fun w _=>laidMetH Tryd.prog theLaid w) (fun _ _ _ hh h=>h.of_heap hh) Tryd.own started (by kernel_rfl) Tryd.func6
  (ChangeSpec.witness_shaped (enc:=enc) (C:=Tryd.checked) (os:=os) (X:=fun w _=>laidMetH Tryd.prog theLaid w) false (World.laidAll Tryd.prog os theLaid) #[.slice none 0 0] 8 (World.laidAll_os _ _ _)
   (World.shaped_of_ZipB (by kernel_rfl) (by kernel_rfl)) (by kernel_rfl) (by kernel_rfl) (by kernel_rfl)
   (by rw[MakeChecks.laidMetH_plain _ _ _ (by kernel_rfl)]; exact laidMet_laidAll _ (by kernel_rfl) (by kernel_rfl))) ?_
 intro W base args ds gs before hval0 hW hz hL hsh
 have hval:∀ (j:Nat) t v,Tryd.f6.params[j]? = some t→args[j]? = some v→Value.okWide Tryd.prog W .any base t v:=hval0
 have hW':=hW
 obtain⟨p,q,hA0,hV,rfl,hfz,hnd⟩:=hW
 have hA:DataW.TrodAll enc Tryd.prog W 0 (fun _=>true) true Tryd.f6.params.toList args.toList ds p:=hA0
 rw[Tryd.params6] at hA hval
 obtain⟨v1,d1,rfl,rfl,h1⟩:=trodAll_one hA
 obtain⟨rfl,rfl⟩:=trodVars_none hV
 clear hA0 hval0
 simp only[List.append_nil] at hW'
 have hlt:∀ x ∈ p,x.block < W.heap.size:=fun x hx=>hW'.lt x hx
 rw[Tryd.params6] at hz
 obtain⟨A,c,l,rfl,hr,hx,hb⟩:=open_prog64 (hval 0 22 v1 rfl rfl) h1 (fun n hn=>of_decide_eq_true (List.all_eq_true.1 hz n (List.mem_append_left _ hn)))
 have hG:=sh_of_laid hL (by kernel_rfl)
 have hT:=tab_of_laid hL
 have hL2:=lib_of hL hsh
 refine Calls.mono (law6 l A c W hx hr hG hT hL2) fun e W' he=>?_
 cases e with
 | panicked ch=>exact he.elim
 | outgrown=>exact he.elim
 | returned v =>
  obtain⟨hk,rfl⟩:=he
  have hb:Below W.heap.size W W':=⟨hk.os,hk.tape,hk.output,hk.size,hk.block⟩
  exact⟨_,rfl,post_of_below (pa:=p) (pv:=[]) hW' (fun _ _ _=>trodAll_mk1 (shut_bool Tryd.underlying4 true))
   (fun sp hsp=>trodAll_mk1 (WideElems.Trod_stays Tryd.laidOut (by kernel_rfl) (of_decide_eq_true (by kernel_rfl)) h1 (fun x hx=>hb.same (hlt x hx)) (fun x hx=>hsp x hx)))
   (fun _ _=>rfl) (by simp) hb (ok_one (by kernel_rfl) rfl (okWide_bool_mk Tryd.underlying4 true))⟩
theorem asmBack_row:Rows.AsmBackSaid :=
 OpenClaim.holds_of_wide 6 Tryd.f6 rfl rfl rfl rfl rfl rfl rfl ⟨rfl,rfl,rfl,rfl,rfl⟩ rfl rfl rfl rfl rfl (by kernel_rfl) Tryd.func6 (by kernel_rfl)
  (of_decide_eq_true (by kernel_rfl)) (by unfold Func.isWrapper; first | (rw[if_pos (by decide +kernel)]; kernel_rfl) | (rw[if_neg (by decide +kernel)]; exact⟨rfl,rfl⟩))
  (fun os started H enc _=>asmBack_lifted os started H enc)
theorem asmBack_holds:Rows.AsmBackCardSaid :=
 Claim7.holds_tied_plain_at .later [] [.data, .data, .data, .data, .sentinel, .sentinel, .data, .pinned] true (true, "e0731d5d45972d456a70c3f1c836bced2e0421b7ea518b3eb0cec5afa9249240") true
  asmBack_row (fun _ h=>by cases h) (by kernel_rfl) (fun _ h=>by cases h) asmBack_row_tie rfl ⟨rfl,rfl⟩ (by kernel_rfl) rfl
  (fun f fn hf hfn=>by
   obtain rfl : f = 6 := Option.some.inj ((show Tryd.prog.funcNamed "shunt/shuntlaw15.AsmBack" = some 6 by kernel_rfl).symm.trans hf) |>.symm
   obtain rfl:fn=Tryd.f6:=(Option.some.inj (Tryd.func6.symm.trans hfn)).symm
   exact⟨by kernel_rfl,fun j t ht=>by
    rw[Tryd.params6] at ht
    have hm:t ∈ [22]:=by simpa using Array.mem_of_getElem? ht
    have hall:([22].all fun u=>!Tryd.prog.wantsStandIn u)=true:=by kernel_rfl
    exact (show Tryd.prog.wantsStandIn t=false by simpa using List.all_eq_true.1 hall t hm)⟩)
  (by kernel_rfl)
end Go.Proofs.YtaiajnehnjnadaaDoor
