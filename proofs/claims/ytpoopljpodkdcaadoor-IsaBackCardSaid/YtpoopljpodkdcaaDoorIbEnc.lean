
import Derived.Test.YtpoopljpodkdcaaDoorIsaSpec
import Derived.Test.YtpoopljpodkdcaaDoorIbCode
import Derived.Test.YtpoopljpodkdcaaDoorSxStill
set_option linter.unusedSimpArgs false
set_option linter.unusedVariables false
set_option linter.unnecessarySimpa false
namespace Go.Proofs.YtpoopljpodkdcaaDoor
open Go Go.Sx Go.Isa
set_option maxRecDepth 100000
theorem enc23 (A : Option Addr) (c : Nat) (l : List In) (w : World) (hA : RowAt w A (cellsI l)) (hl : l.length ≤ 3000)
   : CallsV Tryd.prog 23 [.slice A l.length c] w fun v w' => Fresh w w' ∧
      ((okL l ∧ ∃ s, v = .tuple #[s, .int .i64 0] ∧ w'.ownsRow w.heap.size 5 1 s (encL l).length ((encL l).map vb)) ∨ (¬ okL l ∧ v = .tuple #[.slice none 0 0, .int .i64 2])) := by
  refine calls_go (keep := K23) (nt := 71) (svs := [.val (.slice A l.length c)]) Tryd.func23 x23 n23 (by simp) (by simp [IsL, Is]) fun R hR => ?_
  have bad : ¬ okL l → ∀ s, denAll s.H s.F [2, 3] = some [.slice none 0 0, .int .i64 2] → RetG (cxOf Tryd.prog Tryd.f23 K23 T23 R) ⟨w, w.heap.size, [], 71, []⟩ s := fun hk s hs =>
    ret_rule r23 rfl hs fun W hW => hR _ _ ⟨hW.fresh', .inr ⟨hk, rfl⟩⟩
  (refine Y_go 600 ?_; dsimp only [keyIs_q1, keyIs_q2, yGd_q7, yGd_q8, y2_q1, y1s_q1, y1_q1, yst_q1, curB_q1, curE_q1, cellsB_q1, yPick_q1, yPick_q2, yPick_q3, yArith_q1, yDiv_q1, yBits_q1, yShift_q1, yCmp_q1, yEqb_q1, yEqb_q2, yEqs_q1, yNot_q1, yNot_q2, yNot_q3, yConv_q1, yLenO_q1, yLenS_q1, yLenS_q2, yLenS_q3, yLenT_q1, yIdxO_q1, yIdx_q1, yIdx_q2, yIdx_q3, yIdxAO_q1, yIdxA_q1, yIdxA_q2, yIdxA_q3, yKO_q1, yFld_q1, yFld_q2, yFld_q3, yOne_q1, yOne_q2, yOneO_q1, yFldv_q1, yLoad_q1, yLoad_q2, yLoad_q3, yLoad_q4, yLoad_q5, yLoad_q6, yLoad_q7, yLoad_q8, yLoad_q9, yLoadE_q1, yLoadE_q2, yLoadO_q1, yLoadP_q1, yLoadP_q2, yLoadP_q3, yStC_q1, yStR_q1, yStE_q1, yStE_q2, yStO2_q1, yStO_q1, yStore_q1, yStore_q2, yBox_q1, yFillB_q1, yFill_q1, yFill_q2, yFillS_q1, yFillS_q2, yBuild_q1, yBuildS_q1, yNilF_q1, yNilF_q2, yNil_q1, yNil_q2, yNil_q3, yNil_q4, yNil_q5, yExtO_q1, yExt_q1, yApp3_q1, yApp3_q2, yApp3_q3, ySrcC_q1, ySrcD_q1, ySrcK_q1, ySrcO_q1, ySrc_q1, ySrc_q2, ySrc_q3, yAppM_q1, appO_q1, appL2_q1, appL_q1, yMd_q1, yMd_q2, yMd_q3, yCat_q1, yB2sO_q1, denO_q1, yB2sC_q1, yB2sE_q1, yB2sE_q2, yB2s_q1, yB2s_q2, yB2s_q3, hiS_q1, hiI_q1, hiI_q2, loI_q1, loI_q2, ySubO_q1, ySubO_q2, ySub_q1, ySub_q2, ySub_q3, ySub_q4, ySub_q5, ySubT_q1, ySubT_q2, yIxT_q1, yIxA_q1, yIxA_q2, eqO_q1, yEqa_q1, yEqa_q2, nilO_q1, yNilOf_q1, yNilOf_q2, yNilOf_q3, yNilOf_q4, yNilOf_q5, yNilOf_q6, yNilOf_q7, yNilOf_q8, yNilOf_q9, yNilOf_q10, yNilOf_q11, yMm_q1, yLib_q1, yLkV_q1, yLkV_q2, yLkE_q1, yLk_q1, yMuE_q1, yMu_q1, yMdE_q1, yMd2_q1, yLnE_q1, yLn_q1, yMks_q1, yk_q1, yk_q2, yk_q3, yk_q4, yk_q5, yk_q6, yk_q7, yk_q8, yk_q9, yk_q10, yk_q11, yk_q12, yk_q13, yk_q14, yk_q15, yk_q16, yk_q17, yk_q18, yk_q19, yk_q20, yk_q21, yk_q22, yk_q23, yk_q24, yk_q25, yk_q26, yk_q27, yk_q28, yk_q29, yk_q30, yk_q31, yk_q32, yk_q33, yk_q34, yk_q35, yk_q36, yk_q37, yk_q38, yk_q39, yk_q40, yk_q41, yk_q42, yk_q43, yk_q44, yGd_q1, yGd_q2, yGd_q3, yGd_q4, yGd_q5, yGd_q6, yIfC_q1, yIfC_q2, yIfC_q3, yPop_q1, yPop_q2, lkB_t, lkB_f, lk_nil, lk_cons, svc_true, svc_false, svc_int, svc_float, svc_string, svc_pointer, svc_slice, svc_map, svc_chan, svc_func, svc_nilFunc, svc_iface, svc_nilIface, svc_agg, svc_tuple, okCell_int, okCell_float, okCell_string, okCell_pointer, okCell_slice, okCell_map, okCell_chan, okCell_func, okCell_nilFunc, okCell_iface, okCell_nilIface, okCell_agg, okCell_tuple, okCell_bool, okCell_sbt, okCell_sbf, okCell_sopq, okCell_sptr, okCell_sadr, okCell_sslc, okCell_sown, okCell_soad, okCell_smp, okCell_stup, okCell_sfn, okCell_sagg, yCells_agg, yCells_val, yCells_bt, yCells_bf, yCells_opq, yCells_ptr, yCells_adr, yCells_slc, yCells_own, yCells_oad, yCells_mp, yCells_tup, yCells_fn, nz_unk, nz_val, nz_agg, nz_bt, nz_bf, nz_opq, nz_ptr, nz_adr, nz_slc, nz_own, nz_oad, nz_mp, nz_tup, nz_fn, okL_nil, okL_cons, okLB_t, okLB_f, ev_tmp, ev_const, ev_global, ev_func, putF_none, putF_some, bOf_bt, bOf_bf, bOf_val, tellB_tmp, tellB_const, kEq_i8, kEq_i16, kEq_i32, kEq_i64, kEq_u8, kEq_u16, kEq_u32, kEq_u64, lowA_none, lowA_some, lowO_none, lowO_some, and2_t, cmpB_eql, cmpB_neq, cmpB_lss, cmpB_leq, cmpB_gtr, cmpB_geq, Y_nil, Y_k, Y_gk, Y_call, Y_callv, Y_gcall, Y_still, Y_gstill, Y_gcallv, Y_skip, Y_ops, Y_seq, Y_cond, Y_blk, Y_exit, Y_loop, Y_rng, Y_ret, Y_ref, Y_scp, Y_lab, Y_endb, Y_lend, Y_end, YK, YR, YS, YG, YC, YP, normF, popTo, nth, setn, evL, takeL, dropL, splice, repL, denL, den, blk, eqSV, List.map, List.length, List.cons_append, List.nil_append, List.length_cons, List.length_nil, Int.reduceToNat, Nat.reduceBEq, Nat.reduceAdd, Nat.reduceMul, Nat.reduceSub, beq_self_eq_true, Nat.zero_add, Nat.add_zero, numF, X23, t23n0, T23n0, t23n1, T23n1, t23n2, T23n2, t23n3, T23n3, t23n4, T23n4, t23n5, T23n5, t23n6, T23n6, t23n7, T23n7, t23n8, T23n8, t23n9, T23n9, t23n10, T23n10, t23n11, T23n11, t23n12, T23n12, t23n13, T23n13, t23n14, T23n14, t23n15, T23n15, t23n16, T23n16, t23n17, T23n17, t23n18, T23n18])
  refine ⟨fun h => bad (fun hk => ?_) _ rfl, fun h => ?_⟩
  · have := hk.1
    have := of_decide_eq_true h
    omega
  have h := of_decide_eq_false h
  refine loop_go (α := RI) (fun x => x.i ≤ l.length ∧ ∀ y ∈ l.take x.i, okIn y) (fun _ => ⟨w, w.heap.size, [], 71, []⟩)
      (fun x => { F := [(4, .own 0 0), (13, .val (.slice A l.length c)), (14, .val (.int .i64 l.length)), (15, .val (.int .i64 x.i))], H := [.own 5 0 1 x.A (encL (l.take x.i)).length x.c ((encL (l.take x.i)).map vb)] }) (fun x => l.length - x.i) (fun _ => rfl) ?start ?round
  case start =>
    intro a W rep
    refine ⟨⟨0, none, 0⟩, ⟨Nat.zero_le _, by simp⟩, (rep.adopt 4 5 1 rfl).le ?_ ?_⟩ <;> (simp only [setn, List.nil_append, List.cons_append, leF, leH_nil, leH_cons, leF_nil, lk, scp, scpL, scpO, resF, resH, resO, resV, resVL, nth, Nat.reduceBEq, Nat.reduceLT, decide_true, decide_false, List.length, List.length_cons, List.length_nil, Nat.reduceAdd, Bool.and_self, Bool.and_true, and_true, true_and, numF] <;> try simp) <;> simp [encL]
  case round =>
    rintro ⟨i, A', c'⟩ ⟨hi, hok⟩ I hI
    have hi : i ≤ l.length := hi
    have hok : ∀ y ∈ l.take i, okIn y := hok
    (refine Y_go 600 ?_; dsimp only [keyIs_q1, keyIs_q2, yGd_q7, yGd_q8, y2_q1, y1s_q1, y1_q1, yst_q1, curB_q1, curE_q1, cellsB_q1, yPick_q1, yPick_q2, yPick_q3, yArith_q1, yDiv_q1, yBits_q1, yShift_q1, yCmp_q1, yEqb_q1, yEqb_q2, yEqs_q1, yNot_q1, yNot_q2, yNot_q3, yConv_q1, yLenO_q1, yLenS_q1, yLenS_q2, yLenS_q3, yLenT_q1, yIdxO_q1, yIdx_q1, yIdx_q2, yIdx_q3, yIdxAO_q1, yIdxA_q1, yIdxA_q2, yIdxA_q3, yKO_q1, yFld_q1, yFld_q2, yFld_q3, yOne_q1, yOne_q2, yOneO_q1, yFldv_q1, yLoad_q1, yLoad_q2, yLoad_q3, yLoad_q4, yLoad_q5, yLoad_q6, yLoad_q7, yLoad_q8, yLoad_q9, yLoadE_q1, yLoadE_q2, yLoadO_q1, yLoadP_q1, yLoadP_q2, yLoadP_q3, yStC_q1, yStR_q1, yStE_q1, yStE_q2, yStO2_q1, yStO_q1, yStore_q1, yStore_q2, yBox_q1, yFillB_q1, yFill_q1, yFill_q2, yFillS_q1, yFillS_q2, yBuild_q1, yBuildS_q1, yNilF_q1, yNilF_q2, yNil_q1, yNil_q2, yNil_q3, yNil_q4, yNil_q5, yExtO_q1, yExt_q1, yApp3_q1, yApp3_q2, yApp3_q3, ySrcC_q1, ySrcD_q1, ySrcK_q1, ySrcO_q1, ySrc_q1, ySrc_q2, ySrc_q3, yAppM_q1, appO_q1, appL2_q1, appL_q1, yMd_q1, yMd_q2, yMd_q3, yCat_q1, yB2sO_q1, denO_q1, yB2sC_q1, yB2sE_q1, yB2sE_q2, yB2s_q1, yB2s_q2, yB2s_q3, hiS_q1, hiI_q1, hiI_q2, loI_q1, loI_q2, ySubO_q1, ySubO_q2, ySub_q1, ySub_q2, ySub_q3, ySub_q4, ySub_q5, ySubT_q1, ySubT_q2, yIxT_q1, yIxA_q1, yIxA_q2, eqO_q1, yEqa_q1, yEqa_q2, nilO_q1, yNilOf_q1, yNilOf_q2, yNilOf_q3, yNilOf_q4, yNilOf_q5, yNilOf_q6, yNilOf_q7, yNilOf_q8, yNilOf_q9, yNilOf_q10, yNilOf_q11, yMm_q1, yLib_q1, yLkV_q1, yLkV_q2, yLkE_q1, yLk_q1, yMuE_q1, yMu_q1, yMdE_q1, yMd2_q1, yLnE_q1, yLn_q1, yMks_q1, yk_q1, yk_q2, yk_q3, yk_q4, yk_q5, yk_q6, yk_q7, yk_q8, yk_q9, yk_q10, yk_q11, yk_q12, yk_q13, yk_q14, yk_q15, yk_q16, yk_q17, yk_q18, yk_q19, yk_q20, yk_q21, yk_q22, yk_q23, yk_q24, yk_q25, yk_q26, yk_q27, yk_q28, yk_q29, yk_q30, yk_q31, yk_q32, yk_q33, yk_q34, yk_q35, yk_q36, yk_q37, yk_q38, yk_q39, yk_q40, yk_q41, yk_q42, yk_q43, yk_q44, yGd_q1, yGd_q2, yGd_q3, yGd_q4, yGd_q5, yGd_q6, yIfC_q1, yIfC_q2, yIfC_q3, yPop_q1, yPop_q2, lkB_t, lkB_f, lk_nil, lk_cons, svc_true, svc_false, svc_int, svc_float, svc_string, svc_pointer, svc_slice, svc_map, svc_chan, svc_func, svc_nilFunc, svc_iface, svc_nilIface, svc_agg, svc_tuple, okCell_int, okCell_float, okCell_string, okCell_pointer, okCell_slice, okCell_map, okCell_chan, okCell_func, okCell_nilFunc, okCell_iface, okCell_nilIface, okCell_agg, okCell_tuple, okCell_bool, okCell_sbt, okCell_sbf, okCell_sopq, okCell_sptr, okCell_sadr, okCell_sslc, okCell_sown, okCell_soad, okCell_smp, okCell_stup, okCell_sfn, okCell_sagg, yCells_agg, yCells_val, yCells_bt, yCells_bf, yCells_opq, yCells_ptr, yCells_adr, yCells_slc, yCells_own, yCells_oad, yCells_mp, yCells_tup, yCells_fn, nz_unk, nz_val, nz_agg, nz_bt, nz_bf, nz_opq, nz_ptr, nz_adr, nz_slc, nz_own, nz_oad, nz_mp, nz_tup, nz_fn, okL_nil, okL_cons, okLB_t, okLB_f, ev_tmp, ev_const, ev_global, ev_func, putF_none, putF_some, bOf_bt, bOf_bf, bOf_val, tellB_tmp, tellB_const, kEq_i8, kEq_i16, kEq_i32, kEq_i64, kEq_u8, kEq_u16, kEq_u32, kEq_u64, lowA_none, lowA_some, lowO_none, lowO_some, and2_t, cmpB_eql, cmpB_neq, cmpB_lss, cmpB_leq, cmpB_gtr, cmpB_geq, Y_nil, Y_k, Y_gk, Y_call, Y_callv, Y_gcall, Y_still, Y_gstill, Y_gcallv, Y_skip, Y_ops, Y_seq, Y_cond, Y_blk, Y_exit, Y_loop, Y_rng, Y_ret, Y_ref, Y_scp, Y_lab, Y_endb, Y_lend, Y_end, YK, YR, YS, YG, YC, YP, normF, popTo, nth, setn, evL, takeL, dropL, splice, repL, denL, den, blk, eqSV, List.map, List.length, List.cons_append, List.nil_append, List.length_cons, List.length_nil, Int.reduceToNat, Nat.reduceBEq, Nat.reduceAdd, Nat.reduceMul, Nat.reduceSub, beq_self_eq_true, Nat.zero_add, Nat.add_zero, t23n0, T23n0, t23n1, T23n1, t23n2, T23n2, t23n3, T23n3, t23n4, T23n4, t23n5, T23n5, t23n6, T23n6, t23n7, T23n7, t23n8, T23n8, t23n9, T23n9, t23n10, T23n10, t23n11, T23n11, t23n12, T23n12, t23n13, T23n13, t23n14, T23n14, t23n15, T23n15, t23n16, T23n16, t23n17, T23n17, t23n18, T23n18])
    refine ⟨fun hlt => ?_, fun hge => ?_⟩
    · have hlt : i < l.length := by have := of_decide_eq_true hlt; omega
      have cl : ∀ k v, (l[i]).cells[k]? = some v → CellAt ⟨w, w.heap.size, [], 71, []⟩ A (i * 5 + k) v := by
        intro k v hk
        have := (List.getElem?_eq_some_iff.1 hk).1
        exact hA.cell (by rw [cellsI_get l hlt this]; exact hk)
      refine ⟨⟨by omega, by omega, hA.isSome (j := i * 5) (by rw [cellsI_len]; omega)⟩, _, cl 0 _ rfl, _, cl 1 _ rfl, _, cl 2 _ rfl, _, cl 3 _ rfl, _, cl 4 _ rfl, fun g => ?_⟩
      generalize hx : l[i] = x
      have hxl : okL l → okIn x := fun h => h.2 x (hx ▸ List.getElem_mem hlt)
      refine ⟨fun h1 => bad (fun ho => ?_) _ rfl, fun h1 => ⟨fun h2 => bad (fun ho => ?_) _ rfl, fun h2 => ?_⟩⟩
      · have := (hxl ho).2.1
        have := of_decide_eq_true h1
        omega
      · have := (hxl ho).2.2
        have := of_decide_eq_true h2
        omega
      have h1 := of_decide_eq_false h1
      have h2 := of_decide_eq_false h2
      obtain ⟨ns, hns⟩ : ∃ ns, ns = [x.op, x.a, x.b, x.c] := ⟨_, rfl⟩
      have nsl : ns.length = 4 := by rw [hns]; rfl
      have nok : okL l → ∀ n ∈ ns, isB n := by
        intro h n hn
        have := (hxl h).1
        subst hns
        simp only [List.mem_cons, List.not_mem_nil, or_false] at hn
        rcases hn with rfl | rfl | rfl | rfl
        · exact this.1
        · exact this.2.1
        · exact this.2.2.1
        · exact this.2.2.2
      refine loop_go (α := RI) (fun y => y.i ≤ 4 ∧ ∀ n ∈ ns.take y.i, isB n) (fun _ => ⟨w, w.heap.size, [], 71, []⟩)
        (fun y => { F := [(4, .own 0 0), (6, .ptr 1 0), (13, .val (.slice A l.length c)), (14, .val (.int .i64 l.length)), (15, .val (.int .i64 i)), (35, .agg [.val (.int .i64 x.op), .val (.int .i64 x.a), .val (.int .i64 x.b), .val (.int .i64 x.c)]), (36, .val (.int .i64 y.i))], H := [.own 5 0 1 y.A (encL (l.take i) ++ ns.take y.i).length y.c ((encL (l.take i) ++ ns.take y.i).map vb), .cells g 23 [.val (.int .i64 x.op), .val (.int .i64 x.a), .val (.int .i64 x.b), .val (.int .i64 x.c), .val (.int .i64 x.imm)]] }) (fun y => 4 - y.i) (fun _ => rfl) ?start ?round
      case start =>
        intro a W rep
        refine ⟨⟨0, A', c'⟩, ⟨Nat.zero_le _, by simp⟩, rep.le ?_ ?_⟩ <;> (simp only [setn, List.nil_append, List.cons_append, leF, leH_nil, leH_cons, leF_nil, lk, scp, scpL, scpO, resF, resH, resO, resV, resVL, nth, Nat.reduceBEq, Nat.reduceLT, decide_true, decide_false, List.length, List.length_cons, List.length_nil, Nat.reduceAdd, Bool.and_self, Bool.and_true, and_true, true_and, numF] <;> try simp) <;> simp [hx, hns]
      case round =>
        rintro ⟨k, B, cB⟩ ⟨hk, hkk⟩ J hJ
        have hk : k ≤ 4 := hk
        have hkk : ∀ n ∈ ns.take k, isB n := hkk
        (refine Y_go 600 ?_; dsimp only [keyIs_q1, keyIs_q2, yGd_q7, yGd_q8, y2_q1, y1s_q1, y1_q1, yst_q1, curB_q1, curE_q1, cellsB_q1, yPick_q1, yPick_q2, yPick_q3, yArith_q1, yDiv_q1, yBits_q1, yShift_q1, yCmp_q1, yEqb_q1, yEqb_q2, yEqs_q1, yNot_q1, yNot_q2, yNot_q3, yConv_q1, yLenO_q1, yLenS_q1, yLenS_q2, yLenS_q3, yLenT_q1, yIdxO_q1, yIdx_q1, yIdx_q2, yIdx_q3, yIdxAO_q1, yIdxA_q1, yIdxA_q2, yIdxA_q3, yKO_q1, yFld_q1, yFld_q2, yFld_q3, yOne_q1, yOne_q2, yOneO_q1, yFldv_q1, yLoad_q1, yLoad_q2, yLoad_q3, yLoad_q4, yLoad_q5, yLoad_q6, yLoad_q7, yLoad_q8, yLoad_q9, yLoadE_q1, yLoadE_q2, yLoadO_q1, yLoadP_q1, yLoadP_q2, yLoadP_q3, yStC_q1, yStR_q1, yStE_q1, yStE_q2, yStO2_q1, yStO_q1, yStore_q1, yStore_q2, yBox_q1, yFillB_q1, yFill_q1, yFill_q2, yFillS_q1, yFillS_q2, yBuild_q1, yBuildS_q1, yNilF_q1, yNilF_q2, yNil_q1, yNil_q2, yNil_q3, yNil_q4, yNil_q5, yExtO_q1, yExt_q1, yApp3_q1, yApp3_q2, yApp3_q3, ySrcC_q1, ySrcD_q1, ySrcK_q1, ySrcO_q1, ySrc_q1, ySrc_q2, ySrc_q3, yAppM_q1, appO_q1, appL2_q1, appL_q1, yMd_q1, yMd_q2, yMd_q3, yCat_q1, yB2sO_q1, denO_q1, yB2sC_q1, yB2sE_q1, yB2sE_q2, yB2s_q1, yB2s_q2, yB2s_q3, hiS_q1, hiI_q1, hiI_q2, loI_q1, loI_q2, ySubO_q1, ySubO_q2, ySub_q1, ySub_q2, ySub_q3, ySub_q4, ySub_q5, ySubT_q1, ySubT_q2, yIxT_q1, yIxA_q1, yIxA_q2, eqO_q1, yEqa_q1, yEqa_q2, nilO_q1, yNilOf_q1, yNilOf_q2, yNilOf_q3, yNilOf_q4, yNilOf_q5, yNilOf_q6, yNilOf_q7, yNilOf_q8, yNilOf_q9, yNilOf_q10, yNilOf_q11, yMm_q1, yLib_q1, yLkV_q1, yLkV_q2, yLkE_q1, yLk_q1, yMuE_q1, yMu_q1, yMdE_q1, yMd2_q1, yLnE_q1, yLn_q1, yMks_q1, yk_q1, yk_q2, yk_q3, yk_q4, yk_q5, yk_q6, yk_q7, yk_q8, yk_q9, yk_q10, yk_q11, yk_q12, yk_q13, yk_q14, yk_q15, yk_q16, yk_q17, yk_q18, yk_q19, yk_q20, yk_q21, yk_q22, yk_q23, yk_q24, yk_q25, yk_q26, yk_q27, yk_q28, yk_q29, yk_q30, yk_q31, yk_q32, yk_q33, yk_q34, yk_q35, yk_q36, yk_q37, yk_q38, yk_q39, yk_q40, yk_q41, yk_q42, yk_q43, yk_q44, yGd_q1, yGd_q2, yGd_q3, yGd_q4, yGd_q5, yGd_q6, yIfC_q1, yIfC_q2, yIfC_q3, yPop_q1, yPop_q2, lkB_t, lkB_f, lk_nil, lk_cons, svc_true, svc_false, svc_int, svc_float, svc_string, svc_pointer, svc_slice, svc_map, svc_chan, svc_func, svc_nilFunc, svc_iface, svc_nilIface, svc_agg, svc_tuple, okCell_int, okCell_float, okCell_string, okCell_pointer, okCell_slice, okCell_map, okCell_chan, okCell_func, okCell_nilFunc, okCell_iface, okCell_nilIface, okCell_agg, okCell_tuple, okCell_bool, okCell_sbt, okCell_sbf, okCell_sopq, okCell_sptr, okCell_sadr, okCell_sslc, okCell_sown, okCell_soad, okCell_smp, okCell_stup, okCell_sfn, okCell_sagg, yCells_agg, yCells_val, yCells_bt, yCells_bf, yCells_opq, yCells_ptr, yCells_adr, yCells_slc, yCells_own, yCells_oad, yCells_mp, yCells_tup, yCells_fn, nz_unk, nz_val, nz_agg, nz_bt, nz_bf, nz_opq, nz_ptr, nz_adr, nz_slc, nz_own, nz_oad, nz_mp, nz_tup, nz_fn, okL_nil, okL_cons, okLB_t, okLB_f, ev_tmp, ev_const, ev_global, ev_func, putF_none, putF_some, bOf_bt, bOf_bf, bOf_val, tellB_tmp, tellB_const, kEq_i8, kEq_i16, kEq_i32, kEq_i64, kEq_u8, kEq_u16, kEq_u32, kEq_u64, lowA_none, lowA_some, lowO_none, lowO_some, and2_t, cmpB_eql, cmpB_neq, cmpB_lss, cmpB_leq, cmpB_gtr, cmpB_geq, Y_nil, Y_k, Y_gk, Y_call, Y_callv, Y_gcall, Y_still, Y_gstill, Y_gcallv, Y_skip, Y_ops, Y_seq, Y_cond, Y_blk, Y_exit, Y_loop, Y_rng, Y_ret, Y_ref, Y_scp, Y_lab, Y_endb, Y_lend, Y_end, YK, YR, YS, YG, YC, YP, normF, popTo, nth, setn, evL, takeL, dropL, splice, repL, denL, den, blk, eqSV, List.map, List.length, List.cons_append, List.nil_append, List.length_cons, List.length_nil, Int.reduceToNat, Nat.reduceBEq, Nat.reduceAdd, Nat.reduceMul, Nat.reduceSub, beq_self_eq_true, Nat.zero_add, Nat.add_zero, t23n0, T23n0, t23n1, T23n1, t23n2, T23n2, t23n3, T23n3, t23n4, T23n4, t23n5, T23n5, t23n6, T23n6, t23n7, T23n7, t23n8, T23n8, t23n9, T23n9, t23n10, T23n10, t23n11, T23n11, t23n12, T23n12, t23n13, T23n13, t23n14, T23n14, t23n15, T23n15, t23n16, T23n16, t23n17, T23n17, t23n18, T23n18])
        refine ⟨fun hk4 => ?_, fun hk4 => ?_⟩
        · have hk4 : k < ns.length := by have := of_decide_eq_true hk4; omega
          refine ⟨⟨by omega, by omega⟩, ns[k], ?_, fun h1 => bad (fun ho => ?_) _ rfl, fun h1 => ⟨fun h2 => bad (fun ho => ?_) _ rfl, fun h2 => ⟨_, .u8 (by have := of_decide_eq_false h1; omega) (by have := of_decide_eq_false h2; omega), ?_⟩⟩⟩
          · subst hns
            have : k = 0 ∨ k = 1 ∨ k = 2 ∨ k = 3 := by simp at hk4; omega
            rcases this with rfl | rfl | rfl | rfl <;> rfl
          · have := (nok ho _ (List.getElem_mem hk4)).1
            have := of_decide_eq_true h1
            omega
          · have := (nok ho _ (List.getElem_mem hk4)).2
            have := of_decide_eq_true h2
            omega
          · have hlen : (encL (l.take i) ++ ns.take k).length ≤ 1024 * 8 + 4 := by
              rw [List.length_append, encL_len, List.length_take, List.length_take]; omega
            refine fun g2 => ⟨⟨by simp only [maxLen]; omega, by omega⟩, fun A1 c1 => ⟨_, .add64 (by omega) (by omega), lend_rule fun a W rep => hJ ⟨k + 1, A1, c1⟩ ⟨(by omega : k + 1 ≤ 4), ?_⟩ (by show 4 - (k + 1) < 4 - k; omega) a W (rep.res.le ?_ ?_)⟩⟩
            · intro n hn
              have hn : n ∈ ns.take (k + 1) := hn
              rw [take_succ ns hk4] at hn
              rcases List.mem_append.1 hn with hn | hn
              · exact hkk n hn
              · have h1 := of_decide_eq_false h1
                have h2 := of_decide_eq_false h2
                simp only [List.mem_singleton] at hn
                subst hn
                exact ⟨by omega, by omega⟩
            · (simp only [setn, List.nil_append, List.cons_append, leF, leH_nil, leH_cons, leF_nil, lk, scp, scpL, scpO, resF, resH, resO, resV, resVL, nth, Nat.reduceBEq, Nat.reduceLT, decide_true, decide_false, List.length, List.length_cons, List.length_nil, Nat.reduceAdd, Bool.and_self, Bool.and_true, and_true, true_and, numF] <;> try simp)
            · (simp only [setn, List.nil_append, List.cons_append, leF, leH_nil, leH_cons, leF_nil, lk, scp, scpL, scpO, resF, resH, resO, resV, resVL, nth, Nat.reduceBEq, Nat.reduceLT, decide_true, decide_false, List.length, List.length_cons, List.length_nil, Nat.reduceAdd, Bool.and_self, Bool.and_true, and_true, true_and, numF] <;> try simp)
              exact ⟨by omega, by rw [← List.map_take, ← List.map_take, take_succ ns hk4, List.map_append]; rfl⟩
        · have hk4 : k = 4 := by have := of_decide_eq_false hk4; omega
          subst hk4
          have e4 : ns.take 4 = ns := by rw [← nsl, List.take_length]
          simp only [e4] at hkk ⊢
          have hlen : (encL (l.take i) ++ ns).length ≤ 1024 * 8 + 4 := by
            rw [List.length_append, encL_len, List.length_take]; omega
          have hB : isB x.op ∧ isB x.a ∧ isB x.b ∧ isB x.c := by subst hns; exact ⟨hkk _ (by simp), hkk _ (by simp), hkk _ (by simp), hkk _ (by simp)⟩
          refine ⟨_, .i32 (by omega) (by omega), _, .u32' _, _, .shr 16777216 (by omega) rfl, _, .u8' _, _, .shr 65536 (by omega) rfl, _, .u8' _, _, .shr 256 (by omega) rfl, _, .u8' _, _, .u8' _, ?_⟩
          have hlow : x.imm % 4294967296 = low x.imm ∧ x.imm % 256 = low x.imm % 256 ∧ low x.imm / 16777216 % 256 = low x.imm / 16777216 := by unfold low; split <;> omega
          refine fun g2 => ⟨⟨by simp only [maxLen]; omega, by omega⟩, fun A1 c1 => ⟨_, .add64 (by omega) (by omega), lend_rule fun a W rep => hI ⟨i + 1, A1, c1⟩ ⟨(by omega : i + 1 ≤ l.length), ?_⟩ (by show l.length - (i + 1) < l.length - i; omega) a W (rep.res.le ?_ ?_)⟩⟩
          · intro y hy
            have hy : y ∈ l.take (i + 1) := hy
            rw [take_succ l hlt] at hy
            rcases List.mem_append.1 hy with hy | hy
            · exact hok y hy
            · simp only [List.mem_singleton] at hy
              subst hy
              rw [hx]
              exact ⟨hB, by omega, by omega⟩
          · (simp only [setn, List.nil_append, List.cons_append, leF, leH_nil, leH_cons, leF_nil, lk, scp, scpL, scpO, resF, resH, resO, resV, resVL, nth, Nat.reduceBEq, Nat.reduceLT, decide_true, decide_false, List.length, List.length_cons, List.length_nil, Nat.reduceAdd, Bool.and_self, Bool.and_true, and_true, true_and, numF] <;> try simp)
          · (simp only [setn, List.nil_append, List.cons_append, leF, leH_nil, leH_cons, leF_nil, lk, scp, scpL, scpO, resF, resH, resO, resV, resVL, nth, Nat.reduceBEq, Nat.reduceLT, decide_true, decide_false, List.length, List.length_cons, List.length_nil, Nat.reduceAdd, Bool.and_self, Bool.and_true, and_true, true_and, numF] <;> try simp)
            simp [take_succ l hlt, encL_app, encL, encIn, immB, hlow, hns, vb, hx]
    · have hge := of_decide_eq_false hge
      have hil : i = l.length := by omega
      subst hil
      refine ret_rule (vs := [.slice A' _ c', .int .i64 0]) r23 rfl rfl fun W hW => hR _ _ ⟨hW.fresh', .inl ⟨⟨by omega, ?_⟩, _, rfl, ?_⟩⟩
      · simpa using hok
      · have := hW.owns (i := 0) rfl
        simpa using this
end Go.Proofs.YtpoopljpodkdcaaDoor
