/- Part W 2 of what the proof of StableSays stands on: what the functions of the program compute. -/
import Derived.Test.YtblhpmhfhpmifaaDoorW1
set_option linter.unusedVariables false
set_option linter.unusedSimpArgs false
namespace Go.Proofs
open Go.Aw
set_option linter.unusedSimpArgs false
set_option maxRecDepth 10000
set_option maxHeartbeats 1000000
theorem rstable_spec (n : Nat) (A B : List (List Nat)) (H : List Nat) (hpre : (Prefs n A ∧ Prefs n B ∧ FullR n H) ∧ n ≤ 6) : FnD Tryd.prog 65 [.l (A.map lnR), .l (B.map lnR), .l (H.map nD)] (Bo (stb2 n A B H)) := by
  obtain ⟨⟨hA, hB, hF⟩, hn6⟩ := hpre
  have hAl := hA.len
  have hBl := hB.len
  have hHl := hF.1
  obtain ⟨p1, p2, p3, p4⟩ := full_pairs hF
  refine FnD.go Tryd.func65 rfl rfl Tryd.results65 Tryd.ntmps65 ?_
  simp (implicitDefEqProofs := false) (dsimp := false) only [↓aw_seq, ↓aw_block, ↓aw_loop, ↓aw_reg, ↓Qseq_n, ↓ops_nil, ↓ops_cons, ↓eval_int, ↓eval_bool, ↓put_some, ↓op_assign, List.set_cons_zero, List.set_cons_succ, List.cons_append, List.nil_append, List.map_cons, List.map_nil, List.length_cons, List.length_nil, Nat.reduceAdd, Nat.reduceSub, Nat.reduceMul, Nat.zero_add, List.replicate, evK_go, reduceIte, Nat.reduceEqDiff, Nat.reduceLT, Int.zero_add]
  refine loopW (fun i : Nat => { tm := slots 54 [(0, .d (.l (A.map lnR))), (1, .d (.l (B.map lnR))), (2, .d (.l (H.map nD))), (7, .d (I .i64 i))], bx := [], rw := [] })
    (fun i => i ≤ n ∧ (List.range i).all (fun i => (List.range n).all fun j => !(decide (rk A i j < rk A i (H.getD i default)) && decide (rk B j i < rk B j (H.idxOf j)))) = true) (fun i => n - i) 0 ⟨by simp, by simp⟩ ?_ ?_
  · refine Wkn.of [] [] ?_; simp (implicitDefEqProofs := false) (dsimp := false) only [List.set_cons_zero, List.set_cons_succ, Bool.and_self, Nat.reduceAdd, Nat.reduceSub, Nat.reduceMul, List.replicate, evK_go, reduceIte, Nat.reduceEqDiff, Nat.reduceLT, and_self, List.foldl_cons, List.foldl_nil, Int.cast_ofNat_Int, slots, wkL_nil, wkL_cons, wkB_nil, wkR_nil, wkV_j, wkV_d, frz_d, reduceCtorEq]
  · rintro i ⟨hi, hall⟩
    simp (implicitDefEqProofs := false) (dsimp := false) only [slots, hAl, ↓aw_cond, ↓aw_seq, ↓aw_reg, ↓Qseq_n, ↓ops_nil, ↓ops_cons, ↓eval_tmp, ↓put_some, ↓bK_b, ↓lenK_l, ↓binE_i, ↓bi_lss, ↓op_move, ↓op_bin, ↓op_len, ↓sl69, List.getD_cons_zero, List.getD_cons_succ, List.set_cons_zero, List.set_cons_succ, List.length_map, Nat.reduceAdd, Nat.reduceSub, Nat.reduceMul, List.replicate, evK_go, reduceIte, Nat.reduceEqDiff, Nat.reduceLT, List.foldl_cons, List.foldl_nil, Int.ofNat_lt]
    refine cdK_dec (fun h => ?_) (fun h => ?_)
    rotate_left
    · obtain rfl : i = n := by omega
      have e : stb2 i A B H = true := hall
      simp (implicitDefEqProofs := false) (dsimp := false) only [e, ↓aw_seq, ↓aw_exit, ↓aw_ret, ↓aw_reg, ↓Qseq_n, ↓Qseq_x, ↓Qblk_x, ↓Qret_r, ↓ops_nil, ↓ops_cons, ↓eval_tmp, ↓eval_bool, ↓put_some, ↓op_assign, ↓td_d, ↓ret_1, List.getD_cons_zero, List.getD_cons_succ, List.set_cons_zero, List.set_cons_succ, Nat.reduceAdd, Nat.reduceSub, Nat.reduceMul, evK_go, reduceIte, decide_false, Nat.reduceEqDiff, Nat.reduceLT, Nat.lt_irrefl]
      skip
    have hin : i < n := by omega
    simp (implicitDefEqProofs := false) (dsimp := false) only [↓aw_seq, ↓aw_block, ↓aw_skip, ↓aw_loop, ↓aw_reg, ↓Qseq_n, ↓ops_nil, ↓ops_cons, ↓eval_int, ↓put_some, ↓op_assign, List.set_cons_zero, List.set_cons_succ, Nat.reduceAdd, Nat.reduceSub, Nat.reduceMul, evK_go, reduceIte, Nat.reduceEqDiff, Nat.reduceLT]
    refine loopW (fun j : Nat => { tm := slots 54 [(0, .d (.l (A.map lnR))), (1, .d (.l (B.map lnR))), (2, .d (.l (H.map nD))), (7, .d (I .i64 i)), (8, .d (I .i64 j))], bx := [], rw := [] })
      (fun j => j ≤ n ∧ (List.range j).all (fun j => !(decide (rk A i j < rk A i (H.getD i default)) && decide (rk B j i < rk B j (H.idxOf j)))) = true) (fun j => n - j) 0 ⟨by simp, by simp⟩ ?_ ?_
    · refine Wkn.of [] [] ?_; simp (implicitDefEqProofs := false) (dsimp := false) only [List.set_cons_zero, List.set_cons_succ, Bool.and_self, Nat.reduceAdd, Nat.reduceSub, Nat.reduceMul, List.replicate, evK_go, reduceIte, Nat.reduceEqDiff, Nat.reduceLT, and_self, List.foldl_cons, List.foldl_nil, Int.cast_ofNat_Int, slots, wkL_nil, wkL_cons, wkB_nil, wkR_nil, wkV_j, wkV_d, frz_d, reduceCtorEq]
    · rintro j ⟨hj, hallj⟩
      simp (implicitDefEqProofs := false) (dsimp := false) only [slots, hBl, ↓aw_cond, ↓aw_seq, ↓aw_reg, ↓Qseq_n, ↓ops_nil, ↓ops_cons, ↓eval_tmp, ↓put_some, ↓bK_b, ↓lenK_l, ↓binE_i, ↓bi_lss, ↓op_move, ↓op_bin, ↓op_len, ↓sl69, List.getD_cons_zero, List.getD_cons_succ, List.set_cons_zero, List.set_cons_succ, List.length_map, Nat.reduceAdd, Nat.reduceSub, Nat.reduceMul, List.replicate, evK_go, reduceIte, Nat.reduceEqDiff, Nat.reduceLT, List.foldl_cons, List.foldl_nil, Int.ofNat_lt]
      refine cdK_dec (fun h2 => ?_) (fun h2 => ?_)
      · have hjn : j < n := by omega
        have hiA : i < A.length := by omega
        have hjB : j < B.length := by omega
        have hiH : i < H.length := by omega
        have hHi := hF.2.2 _ (getD_mem hiH)
        have hxj := List.idxOf_lt_length_of_mem (p1 j hjn)
        have m1 := hA.mem hin hjn
        have m2 := hA.mem hin hHi
        have m3 := hB.mem hjn hin
        have m4 := hB.mem hjn (show H.idxOf j < n by omega)
        have m5 := p1 j hjn
        have l1 : (A.getD i default).length < 2 ^ 62 := by rw [(hA.row hin).1]; omega
        have l2 : (B.getD j default).length < 2 ^ 62 := by rw [(hB.row hjn).1]; omega
        have l3 : H.length < 2 ^ 62 := by omega
        have hs : (List.range (j + 1)).all (fun j => !(decide (rk A i j < rk A i (H.getD i default)) && decide (rk B j i < rk B j (H.idxOf j)))) = !(decide (rk A i j < rk A i (H.getD i default)) && decide (rk B j i < rk B j (H.idxOf j))) := by
          rw [List.range_succ, List.all_append, hallj, Bool.true_and, List.all_cons, List.all_nil, Bool.and_true]
        have hno : (decide (rk A i j < rk A i (H.getD i default)) && decide (rk B j i < rk B j (H.idxOf j))) = true → stb2 n A B H = false := fun hq => by
          rw [← Bool.not_eq_true]
          intro hst
          have := List.all_eq_true.1 (List.all_eq_true.1 hst i (List.mem_range.2 hin)) j (List.mem_range.2 hjn)
          rw [hq] at this
          cases this
        simp (implicitDefEqProofs := false) (dsimp := false) only [hiA, hiH, hjn, lnR, nD, rplaceN_callQ, m1, m2, l1, ↓gdK_t, ↓gval_mk, ↓gvL_zero, ↓gvL_succ, ↓atK_H, ↓atH_map, ↓aw_seq, ↓aw_block, ↓aw_skip, ↓aw_draw, ↓Qseq_n, ↓eval_tmp, ↓eval_func, ↓put_some, ↓iK_i, ↓ev_move, ↓ev_load, ↓ev_bin, ↓ev_ia, ↓binE_i, ↓bi_lss, ↓ldK_q, ↓iaK_l, isD_d, ↓fnK_f, ↓callKQ_H, ↓allT_nil, ↓allT_cons, ↓td_d, ↓draw_H, ↓h_cons, ↓ldH_n, ↓ldH_g, ↓q_call, ↓q_move, ↓q_load, ↓q_bin, ↓q_ia, ↓il_move, ↓il_load, ↓il_bin, ↓il_ia, ↓il_call, ↓st_tm, ↓cells_c, ↓cells_l, ↓hd_cons, ↓ty3, ↓ty24, ↓sl24, ↓sl69, List.getD_cons_zero, List.getD_cons_succ, List.set_cons_zero, List.set_cons_succ, List.append_nil, List.length_cons, List.length_nil, List.all_cons, List.all_nil, Bool.true_and, Bool.and_self, Bool.true_or, Nat.reduceAdd, Nat.reduceSub, Nat.reduceMul, Nat.zero_add, Int.toNat_natCast, evK_go, reduceIte, decide_true, Nat.reduceEqDiff, Nat.reduceLT, and_self, true_and, Int.zero_add, Int.ofNat_lt, Int.natCast_nonneg]
        refine OrH.l ⟨DrawH.of follows_mixed (by kernel_rfl), ?_⟩
        (repeat refine OrH.l ?_)
        unfold rk at hs hno
        refine cdK_split (fun h3 => ?_) (fun h3 => ?_)
        · rw [h3, Bool.true_and] at hs hno
          simp (implicitDefEqProofs := false) (dsimp := false) only [h3, hjB, lnR, rplaceN_callQ, m3, m4, m5, l2, l3, ↓cdK_true, ↓gdK_t, ↓gval_mk, ↓gvL_zero, ↓gvL_succ, ↓atK_H, ↓atH_map, ↓aw_cond, ↓Qseq_n, ↓eval_tmp, ↓eval_func, ↓put_some, ↓bK_b, ↓iK_i, ↓ev_move, ↓ev_pick, ↓ev_load, ↓ev_bin, ↓ev_ia, ↓binE_i, ↓bi_lss, ↓ldK_q, ↓iaK_l, isD_d, ↓fnK_f, ↓callKQ_H, ↓allT_nil, ↓allT_cons, ↓td_d, ↓h_nil, ↓h_cons, ↓ldH_n, ↓ldH_g, ↓q_call, ↓q_move, ↓q_pick, ↓q_load, ↓q_bin, ↓q_ia, ↓il_move, ↓il_pick, ↓il_load, ↓il_bin, ↓il_ia, ↓il_call, ↓st_tm, ↓cells_l, ↓hd_cons, ↓ty24, ↓sl69, List.getD_cons_zero, List.getD_cons_succ, List.set_cons_zero, List.set_cons_succ, List.append_nil, List.length_cons, List.length_nil, List.all_cons, List.all_nil, Bool.true_and, Bool.and_self, Bool.true_or, Nat.reduceAdd, Nat.reduceSub, Nat.reduceMul, Nat.zero_add, Int.toNat_natCast, evK_go, reduceIte, Nat.reduceEqDiff, Nat.reduceLT, and_self, true_and, Int.zero_add, Int.ofNat_lt, Int.natCast_nonneg]
          (repeat refine OrH.l ?_)
          refine cdK_split (fun h4 => ?_) (fun h4 => ?_)
          · simp (implicitDefEqProofs := false) (dsimp := false) only [hno h4, h4, ↓aw_seq, ↓aw_ret, ↓aw_reg, ↓Qseq_n, ↓Qseq_r, ↓Qblk_r, ↓Qret_r, ↓ops_nil, ↓ops_cons, ↓eval_tmp, ↓eval_bool, ↓put_some, ↓op_assign, ↓td_d, ↓ret_1, List.getD_cons_zero, List.getD_cons_succ, List.set_cons_zero, List.set_cons_succ, Nat.reduceAdd, Nat.reduceSub, Nat.reduceMul, evK_go, reduceIte, Nat.reduceEqDiff, Nat.reduceLT]
            skip
          · rw [h4] at hs
            simp (implicitDefEqProofs := false) (dsimp := false) only [h4, ↓aw_skip, ↓aw_reg, ↓Qseq_n, ↓Qblk_n, ↓ops_nil, ↓ops_cons, ↓eval_tmp, ↓eval_int, ↓put_some, ↓binE_i, ↓bi_add, ↓in_i64, ↓op_move, ↓op_assign, ↓op_bin, List.getD_cons_zero, List.getD_cons_succ, List.set_cons_zero, List.set_cons_succ, Nat.reduceAdd, Nat.reduceSub, Nat.reduceMul, evK_go, reduceIte, Nat.reduceEqDiff, Nat.reduceLT]
            refine ⟨by omega, j + 1, ⟨by omega, hs⟩, by omega, ?_⟩
            refine Wkn.of [] [] ?_; simp (implicitDefEqProofs := false) (dsimp := false) only [List.set_cons_zero, List.set_cons_succ, Bool.and_self, Nat.reduceAdd, Nat.reduceSub, Nat.reduceMul, List.replicate, evK_go, reduceIte, Nat.reduceEqDiff, Nat.reduceLT, and_self, List.foldl_cons, List.foldl_nil, Int.cast_ofNat_Int, Int.natCast_add, slots, wkL_nil, wkL_cons, wkB_nil, wkR_nil, wkV_j, wkV_d, frz_d, reduceCtorEq]
        · rw [h3] at hs
          simp (implicitDefEqProofs := false) (dsimp := false) only [h3, ↓cdK_false, ↓gdK_t, ↓gval_mk, ↓gvL_zero, ↓gvL_succ, ↓aw_cond, ↓aw_skip, ↓aw_reg, ↓Qseq_n, ↓Qblk_n, ↓ops_nil, ↓ops_cons, ↓eval_tmp, ↓eval_int, ↓eval_bool, ↓put_some, ↓bK_b, ↓ev_pick, ↓binE_i, ↓bi_add, ↓in_i64, ↓op_move, ↓op_assign, ↓op_bin, ↓h_nil, ↓h_cons, ↓ldH_n, ↓ldH_g, ↓q_pick, ↓il_move, ↓il_pick, ↓il_load, ↓il_bin, ↓il_ia, ↓il_call, ↓st_tm, List.getD_cons_zero, List.getD_cons_succ, List.set_cons_zero, List.set_cons_succ, Nat.reduceAdd, Nat.reduceSub, Nat.reduceMul, evK_go, reduceIte, Nat.reduceEqDiff, Nat.reduceLT]
          refine ⟨by omega, j + 1, ⟨by omega, hs⟩, by omega, ?_⟩
          refine Wkn.of [] [] ?_; simp (implicitDefEqProofs := false) (dsimp := false) only [List.set_cons_zero, List.set_cons_succ, Bool.and_self, Nat.reduceAdd, Nat.reduceSub, Nat.reduceMul, List.replicate, evK_go, reduceIte, Nat.reduceEqDiff, Nat.reduceLT, and_self, List.foldl_cons, List.foldl_nil, Int.cast_ofNat_Int, Int.natCast_add, slots, wkL_nil, wkL_cons, wkB_nil, wkR_nil, wkV_j, wkV_d, frz_d, reduceCtorEq]
      · obtain rfl : j = n := by omega
        simp (implicitDefEqProofs := false) (dsimp := false) only [↓aw_seq, ↓aw_exit, ↓aw_ret, ↓aw_reg, ↓Qseq_n, ↓Qseq_x, ↓Qblk_n, ↓Qblk_x, ↓Qret_r, ↓ops_nil, ↓ops_cons, ↓eval_tmp, ↓eval_int, ↓eval_bool, ↓put_some, ↓binE_i, ↓bi_add, ↓in_i64, ↓op_move, ↓op_assign, ↓op_bin, ↓td_d, ↓ret_1, List.getD_cons_zero, List.getD_cons_succ, List.set_cons_zero, List.set_cons_succ, Nat.reduceAdd, Nat.reduceSub, Nat.reduceMul, evK_go, reduceIte, decide_false, Nat.reduceEqDiff, Nat.reduceLT, Nat.lt_irrefl]
        refine ⟨by omega, i + 1, ⟨by omega, ?_⟩, by omega, ?_⟩
        · rw [List.range_succ, List.all_append, hall, Bool.true_and, List.all_cons, List.all_nil, Bool.and_true]
          exact hallj
        · refine Wkn.of [] [] ?_; simp (implicitDefEqProofs := false) (dsimp := false) only [List.set_cons_zero, List.set_cons_succ, Bool.and_self, Nat.reduceAdd, Nat.reduceSub, Nat.reduceMul, List.replicate, evK_go, reduceIte, Nat.reduceEqDiff, Nat.reduceLT, and_self, List.foldl_cons, List.foldl_nil, Int.cast_ofNat_Int, Int.natCast_add, slots, wkL_nil, wkL_cons, wkB_nil, wkR_nil, wkV_j, wkV_d, frz_d, reduceCtorEq]
theorem rstables_spec (n : Nat) (A B : List (List Nat)) (hA : Prefs n A) (hB : Prefs n B) (hn6 : n ≤ 6) : ∀ m so, so.length + m = n → so.Nodup → (∀ y ∈ so, y < n) →
    FnD Tryd.prog 62 [.l (A.map lnR), .l (B.map lnR), .l (so.map nD)] (.l ((stbs A B n m so).map nD)) := by
  have hAl := hA.len
  have hBl := hB.len
  intro m
  induction m with
  | zero =>
    intro so hl hd hr
    have hso : so.length = n := by omega
    have hF : (Prefs n A ∧ Prefs n B ∧ FullR n so) ∧ n ≤ 6 := ⟨⟨hA, hB, hso, hd, hr⟩, hn6⟩
    have e0 : stbs A B n 0 so = if stb2 n A B so = true then so else [] := rfl
    have hcs := CallH.eq0 (rstable_spec n A B so hF)
    refine FnD.go Tryd.func62 rfl rfl Tryd.results62 Tryd.ntmps62 ?_
    simp (implicitDefEqProofs := false) (dsimp := false) only [↓aw_cond, ↓aw_seq, ↓aw_reg, ↓Qseq_n, ↓ops_nil, ↓ops_cons, ↓eval_tmp, ↓eval_nil, ↓put_some, ↓bK_b, ↓lenK_l, ↓binE_i, ↓bi_eql, ↓op_move, ↓op_assign, ↓op_bin, ↓op_len, ↓sl24, ↓sl69, List.getD_cons_zero, List.getD_cons_succ, List.set_cons_zero, List.set_cons_succ, List.cons_append, List.nil_append, List.map_cons, List.map_nil, List.length_cons, List.length_nil, List.length_map, Nat.reduceAdd, Nat.reduceSub, Nat.reduceMul, Nat.zero_add, List.replicate, evK_go, reduceIte, Nat.reduceEqDiff, Nat.reduceLT, Int.zero_add, Int.natCast_inj]
    simp (implicitDefEqProofs := false) (dsimp := false) only [hAl, hso, decide_true, hcs, ↓cdK_true, ↓aw_cond, ↓aw_seq, ↓aw_reg, ↓Qseq_n, ↓ops_nil, ↓ops_cons, ↓eval_tmp, ↓eval_func, ↓put_some, ↓bK_b, ↓op_move, ↓op_call, isD_d, ↓fnK_f, ↓call_H, ↓callK_H, ↓allT_nil, ↓allT_cons, ↓td_d, List.getD_cons_zero, List.getD_cons_succ, List.set_cons_zero, List.set_cons_succ, List.append_nil, List.all_cons, List.all_nil, Bool.true_and, Bool.and_self, Bool.true_or, Nat.reduceAdd, Nat.reduceSub, Nat.reduceMul, evK_go, reduceIte, decide_true, Nat.reduceEqDiff, Nat.reduceLT, and_self, true_and]
    (repeat refine OrH.l ?_)
    cases hs : stb2 n A B so with
    | true =>
      simp (implicitDefEqProofs := false) (dsimp := false) only [↓cdK_true, ↓aw_seq, ↓aw_ret, ↓aw_reg, ↓Qseq_n, ↓Qseq_r, ↓Qret_r, ↓ops_nil, ↓ops_cons, ↓eval_tmp, ↓put_some, ↓op_move, ↓op_assign, ↓td_d, ↓ret_1, List.getD_cons_zero, List.getD_cons_succ, List.set_cons_zero, List.set_cons_succ, Nat.reduceAdd, Nat.reduceSub, Nat.reduceMul, evK_go, reduceIte, Nat.reduceEqDiff, Nat.reduceLT]
      rw [e0, hs, if_pos rfl]
    | false =>
      simp (implicitDefEqProofs := false) (dsimp := false) only [↓cdK_false, ↓aw_seq, ↓aw_ret, ↓aw_skip, ↓aw_reg, ↓Qseq_n, ↓Qseq_r, ↓Qret_r, ↓ops_nil, ↓ops_cons, ↓eval_tmp, ↓eval_nil, ↓put_some, ↓op_assign, ↓td_nl, ↓ret_1, List.getD_cons_zero, List.getD_cons_succ, List.set_cons_zero, List.set_cons_succ, Nat.reduceAdd, Nat.reduceSub, Nat.reduceMul, evK_go, reduceIte, Nat.reduceEqDiff, Nat.reduceLT]
      rw [e0, hs, if_neg (by decide)]
      rfl
  | succ m ih =>
    intro so hl hd hr
    have hso : so.length ≠ n := by omega
    have hso62 : so.length < 2 ^ 62 := by omega
    have hso40 : so.length < 2 ^ 40 := by omega
    have hok : ∀ x, x < n → x ∉ so → OkR n (stbs A B n m (so ++ [x])) := fun x hx _ => stbs_ok m _ (by simp; omega) fun y hy => by
      rcases List.mem_append.1 hy with h | h
      · exact hr y h
      · rw [List.mem_singleton.1 h]; exact hx
    have hjk := fun c hc => stbJ_ok (A := A) hok c hc
    have hcall := fun x (hx : x < n) (hxs : x ∉ so) => CallH.eq0 (ih (so ++ [x]) (by simp; omega) (by
      refine List.nodup_append.2 ⟨hd, by simp, fun a ha b hb e => ?_⟩
      rw [List.mem_singleton.1 hb] at e
      exact hxs (e ▸ ha)) fun y hy => by
      rcases List.mem_append.1 hy with h | h
      · exact hr y h
      · rw [List.mem_singleton.1 h]; exact hx)
    have eso : decide (so.length = n) = false := decide_eq_false hso
    have hst : stbs A B n (m + 1) so = stbJ A n (stbs A B n m) so n := rfl
    rw [hst]
    generalize hf : stbs A B n m = f at *
    refine FnD.go Tryd.func62 rfl rfl Tryd.results62 Tryd.ntmps62 ?_
    simp (implicitDefEqProofs := false) (dsimp := false) only [↓aw_cond, ↓aw_seq, ↓aw_reg, ↓Qseq_n, ↓ops_nil, ↓ops_cons, ↓eval_tmp, ↓eval_nil, ↓put_some, ↓bK_b, ↓lenK_l, ↓binE_i, ↓bi_eql, ↓op_move, ↓op_assign, ↓op_bin, ↓op_len, ↓sl24, ↓sl69, List.getD_cons_zero, List.getD_cons_succ, List.set_cons_zero, List.set_cons_succ, List.cons_append, List.nil_append, List.map_cons, List.map_nil, List.length_cons, List.length_nil, List.length_map, Nat.reduceAdd, Nat.reduceSub, Nat.reduceMul, Nat.zero_add, List.replicate, evK_go, reduceIte, Nat.reduceEqDiff, Nat.reduceLT, Int.zero_add, Int.natCast_inj]
    simp (implicitDefEqProofs := false) (dsimp := false) only [hAl, eso, ↓cdK_false, ↓aw_seq, ↓aw_block, ↓aw_skip, ↓aw_loop, ↓aw_reg, ↓Qseq_n, ↓ops_nil, ↓ops_cons, ↓eval_int, ↓eval_nil, ↓put_some, ↓op_assign, List.set_cons_zero, List.set_cons_succ, Nat.reduceAdd, Nat.reduceSub, Nat.reduceMul, evK_go, reduceIte, Nat.reduceEqDiff, Nat.reduceLT]
    refine loopW (fun x : Nat => { tm := slots 76 [(0, .d (.l (A.map lnR))), (1, .d (.l (B.map lnR))), (2, .d (.l (so.map nD))), (7, .d (.l ((stbJ A n f so x).map nD))), (8, .d (I .i64 x))], bx := [], rw := [] })
      (fun x => x ≤ n) (fun x => n - x) 0 (by simp) ?_ ?_
    · refine Wkn.of [] [] ?_; simp (implicitDefEqProofs := false) (dsimp := false) only [List.set_cons_zero, List.set_cons_succ, Bool.and_true, Bool.true_and, Bool.and_self, Nat.reduceAdd, Nat.reduceSub, Nat.reduceMul, List.replicate, evK_go, reduceIte, Nat.reduceEqDiff, Nat.reduceLT, and_self, true_and, and_true, List.foldl_cons, List.foldl_nil, Int.cast_ofNat_Int, slots, wkL_nil, wkL_cons, wkB_nil, wkR_nil, wkV_j, wkV_d, frz_d, frz_nl, dl_eq, reduceCtorEq]
      rfl
    · intro x hx
      simp (implicitDefEqProofs := false) (dsimp := false) only [slots, hBl, ↓aw_cond, ↓aw_seq, ↓aw_reg, ↓Qseq_n, ↓ops_nil, ↓ops_cons, ↓eval_tmp, ↓put_some, ↓bK_b, ↓lenK_l, ↓binE_i, ↓bi_lss, ↓op_move, ↓op_bin, ↓op_len, ↓sl69, List.getD_cons_zero, List.getD_cons_succ, List.set_cons_zero, List.set_cons_succ, List.length_map, Nat.reduceAdd, Nat.reduceSub, Nat.reduceMul, List.replicate, evK_go, reduceIte, Nat.reduceEqDiff, Nat.reduceLT, List.foldl_cons, List.foldl_nil, Int.ofNat_lt]
      refine cdK_dec (fun h => ?_) (fun h => ?_)
      rotate_left
      · obtain rfl : x = n := by omega
        simp (implicitDefEqProofs := false) (dsimp := false) only [↓aw_seq, ↓aw_exit, ↓aw_ret, ↓aw_reg, ↓Qseq_n, ↓Qseq_x, ↓Qblk_x, ↓Qret_r, ↓ops_nil, ↓ops_cons, ↓eval_tmp, ↓put_some, ↓op_move, ↓op_assign, ↓td_d, ↓ret_1, List.getD_cons_zero, List.getD_cons_succ, List.set_cons_zero, List.set_cons_succ, Nat.reduceAdd, Nat.reduceSub, Nat.reduceMul, evK_go, reduceIte, decide_false, Nat.reduceEqDiff, Nat.reduceLT, Nat.lt_irrefl]
        skip
      have hxn : x < n := by omega
      have hpj := hjk x hx
      have hsj : stbJ A n f so (x + 1) = if x ∈ so then stbJ A n f so x else if f (so ++ [x]) = [] then stbJ A n f so x else lowR A (f (so ++ [x])) (if stbJ A n f so x = [] then f (so ++ [x]) else stbJ A n f so x) n := rfl
      generalize stbJ A n f so x = p at *
      simp (implicitDefEqProofs := false) (dsimp := false) only [hasN_call, hso62, ↓aw_cond, ↓aw_seq, ↓aw_block, ↓aw_skip, ↓aw_reg, ↓Qseq_n, ↓ops_nil, ↓ops_cons, ↓eval_tmp, ↓eval_func, ↓put_some, ↓bK_b, ↓op_move, ↓op_call, isD_d, ↓fnK_f, ↓call_H, ↓callK_H, ↓allT_nil, ↓allT_cons, ↓td_d, List.getD_cons_zero, List.getD_cons_succ, List.set_cons_zero, List.set_cons_succ, List.append_nil, List.all_cons, List.all_nil, Bool.true_and, Bool.and_self, Bool.true_or, Nat.reduceAdd, Nat.reduceSub, Nat.reduceMul, evK_go, reduceIte, Nat.reduceEqDiff, Nat.reduceLT, and_self, true_and]
      (repeat refine OrH.l ?_)
      refine cdK_dec (fun hxs => ?_) (fun hxs => ?_)
      · rw [if_pos hxs] at hsj
        simp (implicitDefEqProofs := false) (dsimp := false) only [↓aw_seq, ↓aw_exit, ↓aw_ret, ↓aw_reg, ↓Qseq_n, ↓Qseq_x, ↓Qblk_x, ↓Qret_r, ↓ops_nil, ↓ops_cons, ↓eval_tmp, ↓eval_int, ↓put_some, ↓binE_i, ↓bi_add, ↓in_i64, ↓op_move, ↓op_assign, ↓op_bin, ↓td_d, ↓ret_1, List.getD_cons_zero, List.getD_cons_succ, List.set_cons_zero, List.set_cons_succ, Nat.reduceAdd, Nat.reduceSub, Nat.reduceMul, evK_go, reduceIte, Nat.reduceEqDiff, Nat.reduceLT]
        refine ⟨by omega, x + 1, by omega, by omega, ?_⟩
        refine Wkn.of [] [] ?_; simp (implicitDefEqProofs := false) (dsimp := false) only [hsj, List.set_cons_zero, List.set_cons_succ, Bool.and_self, Nat.reduceAdd, Nat.reduceSub, Nat.reduceMul, List.replicate, evK_go, reduceIte, Nat.reduceEqDiff, Nat.reduceLT, and_self, List.foldl_cons, List.foldl_nil, Int.cast_ofNat_Int, Int.natCast_add, slots, wkL_nil, wkL_cons, wkB_nil, wkR_nil, wkV_j, wkV_d, frz_d, reduceCtorEq]
      rw [if_neg hxs] at hsj
      simp (implicitDefEqProofs := false) (dsimp := false) only [rbehind_callD, hso40, hcall x hxn hxs, ↓aw_cond, ↓aw_seq, ↓aw_skip, ↓aw_reg, ↓Qseq_n, ↓ops_nil, ↓ops_cons, ↓eval_tmp, ↓eval_int, ↓eval_func, ↓put_some, ↓bK_b, ↓lenK_l, ↓binE_i, ↓bi_eql, ↓op_move, ↓op_assign, ↓op_bin, ↓op_len, ↓op_call, isD_d, ↓fnK_f, ↓call_H, ↓callK_H, ↓allT_nil, ↓allT_cons, ↓td_d, ↓sl24, List.getD_cons_zero, List.getD_cons_succ, List.set_cons_zero, List.set_cons_succ, List.append_nil, List.length_map, List.all_cons, List.all_nil, Bool.true_and, Bool.and_self, Bool.true_or, Nat.reduceAdd, Nat.reduceSub, Nat.reduceMul, evK_go, reduceIte, Nat.reduceEqDiff, Nat.reduceLT, and_self, true_and]
      (repeat refine OrH.l ?_)
      have hfx := hok x hxn hxs
      generalize f (so ++ [x]) = g at *
      refine cdK_dec (fun hg0 => ?_) (fun hg0 => ?_)
      · have hg1 : g = [] := List.eq_nil_of_length_eq_zero (by omega)
        rw [if_pos hg1] at hsj
        simp (implicitDefEqProofs := false) (dsimp := false) only [↓aw_seq, ↓aw_exit, ↓aw_ret, ↓aw_reg, ↓Qseq_n, ↓Qseq_x, ↓Qblk_x, ↓Qret_r, ↓ops_nil, ↓ops_cons, ↓eval_tmp, ↓eval_int, ↓put_some, ↓binE_i, ↓bi_add, ↓in_i64, ↓op_move, ↓op_assign, ↓op_bin, ↓td_d, ↓ret_1, List.getD_cons_zero, List.getD_cons_succ, List.set_cons_zero, List.set_cons_succ, Nat.reduceAdd, Nat.reduceSub, Nat.reduceMul, evK_go, reduceIte, Nat.reduceEqDiff, Nat.reduceLT]
        refine ⟨by omega, x + 1, by omega, by omega, ?_⟩
        refine Wkn.of [] [] ?_; simp (implicitDefEqProofs := false) (dsimp := false) only [hsj, List.set_cons_zero, List.set_cons_succ, Bool.and_self, Nat.reduceAdd, Nat.reduceSub, Nat.reduceMul, List.replicate, evK_go, reduceIte, Nat.reduceEqDiff, Nat.reduceLT, and_self, List.foldl_cons, List.foldl_nil, Int.cast_ofNat_Int, Int.natCast_add, slots, wkL_nil, wkL_cons, wkB_nil, wkR_nil, wkV_j, wkV_d, frz_d, reduceCtorEq]
      have hgne : g ≠ [] := fun e => hg0 (by rw [e]; rfl)
      rw [if_neg hgne] at hsj
      obtain ⟨hgl, hglt⟩ := hfx.resolve_left hgne
      obtain ⟨hbl, hblt⟩ := OkR.low (A := A) (.inr ⟨hgl, hglt⟩) hpj hgne
      have hlow := fun k hk => lowR_lt (A := A) (g := g) (fun i hi => hglt _ (getD_mem (by omega))) ⟨hbl, hblt⟩ k hk
      have hlen := lowR_len A g (if p = [] then g else p)
      have hget := lowR_get A g (if p = [] then g else p) hbl
      have hloop : ∀ b : List Nat, b.length = n → (∀ y ∈ b, y < n) → True := fun _ _ _ => trivial
      simp (implicitDefEqProofs := false) (dsimp := false) only [↓aw_cond, ↓aw_seq, ↓aw_skip, ↓aw_reg, ↓Qseq_n, ↓ops_nil, ↓ops_cons, ↓eval_tmp, ↓eval_int, ↓put_some, ↓bK_b, ↓lenK_l, ↓binE_i, ↓bi_eql, ↓op_move, ↓op_bin, ↓op_len, ↓sl24, List.getD_cons_zero, List.getD_cons_succ, List.set_cons_zero, List.set_cons_succ, List.length_map, Nat.reduceAdd, Nat.reduceSub, Nat.reduceMul, evK_go, reduceIte, Nat.reduceEqDiff, Nat.reduceLT]
      refine cdK_dec (fun hp0 => ?_) (fun hp0 => ?_)
      · have hp1 : p = [] := List.eq_nil_of_length_eq_zero (by omega)
        rw [if_pos hp1] at hsj hbl hblt hlow hlen hget
        simp (implicitDefEqProofs := false) (dsimp := false) only [↓aw_seq, ↓aw_block, ↓aw_loop, ↓aw_reg, ↓Qseq_n, ↓ops_nil, ↓ops_cons, ↓eval_tmp, ↓eval_int, ↓put_some, ↓op_move, ↓op_assign, List.getD_cons_zero, List.getD_cons_succ, List.set_cons_zero, List.set_cons_succ, Nat.reduceAdd, Nat.reduceSub, Nat.reduceMul, evK_go, reduceIte, Nat.reduceEqDiff, Nat.reduceLT]
        refine loopW (fun k : Nat => { tm := slots 76 [(0, .d (.l (A.map lnR))), (1, .d (.l (B.map lnR))), (2, .d (.l (so.map nD))), (7, .d (.l ((lowR A g g k).map nD))), (8, .d (I .i64 x)), (9, .d (.l (g.map nD))), (10, .d (I .i64 k))], bx := [], rw := [] })
          (fun k => k ≤ n) (fun k => n - k) 0 (by simp) ?_ ?_
        · refine Wkn.of [] [] ?_; simp (implicitDefEqProofs := false) (dsimp := false) only [List.set_cons_zero, List.set_cons_succ, Bool.and_true, Bool.true_and, Bool.and_self, Nat.reduceAdd, Nat.reduceSub, Nat.reduceMul, List.replicate, evK_go, reduceIte, Nat.reduceEqDiff, Nat.reduceLT, and_self, true_and, and_true, List.foldl_cons, List.foldl_nil, Int.cast_ofNat_Int, slots, wkL_nil, wkL_cons, wkB_nil, wkR_nil, wkV_j, wkV_d, frz_d, dl_eq, reduceCtorEq]
          rfl
        · intro k hk
          simp (implicitDefEqProofs := false) (dsimp := false) only [slots, hAl, ↓aw_cond, ↓aw_seq, ↓aw_reg, ↓Qseq_n, ↓ops_nil, ↓ops_cons, ↓eval_tmp, ↓put_some, ↓bK_b, ↓lenK_l, ↓binE_i, ↓bi_lss, ↓op_move, ↓op_bin, ↓op_len, ↓sl69, List.getD_cons_zero, List.getD_cons_succ, List.set_cons_zero, List.set_cons_succ, List.length_map, Nat.reduceAdd, Nat.reduceSub, Nat.reduceMul, List.replicate, evK_go, reduceIte, Nat.reduceEqDiff, Nat.reduceLT, List.foldl_cons, List.foldl_nil, Int.ofNat_lt]
          refine cdK_dec (fun h2 => ?_) (fun h2 => ?_)
          · have hkn : k < n := by omega
            have hkA : k < A.length := by omega
            have hkg : k < g.length := by omega
            have hlk := hlen k
            have hkl : k < (lowR A g g k).length := by omega
            have hl40 : (lowR A g g k).length < 2 ^ 40 ∧ k < (lowR A g g k).length := ⟨by omega, hkl⟩
            have hgk := hglt _ (getD_mem hkg)
            have hbk := hlow k hk _ (getD_mem hkl)
            have m1 := hA.mem hkn hgk
            have m2 := hA.mem hkn hbk
            have l1 : (A.getD k default).length < 2 ^ 62 := by rw [(hA.row hkn).1]; omega
            have hs : lowR A g g (k + 1) = if rk A k (g.getD k default) < rk A k ((lowR A g g k).getD k default) then (lowR A g g k).set k (g.getD k default) else lowR A g g k := rfl
            unfold rk at hs
            generalize lowR A g g k = z at *
            simp (implicitDefEqProofs := false) (dsimp := false) only [hkn, hkA, hkg, hkl, lnR, nD, rplaceN_callQ, m1, m2, l1, ↓atK_H, ↓atH_map, ↓aw_cond, ↓aw_seq, ↓aw_block, ↓aw_skip, ↓aw_draw, ↓Qseq_n, ↓eval_tmp, ↓eval_func, ↓put_some, ↓bK_b, ↓iK_i, ↓ev_move, ↓ev_load, ↓ev_bin, ↓ev_ia, ↓binE_i, ↓bi_lss, ↓ldK_q, ↓iaK_l, isD_d, ↓fnK_f, ↓callKQ_H, ↓allT_nil, ↓allT_cons, ↓td_d, ↓draw_H, ↓h_nil, ↓h_cons, ↓ldH_n, ↓q_call, ↓q_move, ↓q_load, ↓q_bin, ↓q_ia, ↓il_move, ↓il_load, ↓il_bin, ↓il_ia, ↓il_call, ↓cells_c, ↓cells_l, ↓hd_cons, ↓ty3, ↓ty24, ↓sl24, ↓sl69, List.getD_cons_zero, List.getD_cons_succ, List.set_cons_zero, List.set_cons_succ, List.append_nil, List.length_cons, List.length_nil, List.all_cons, List.all_nil, Bool.true_and, Bool.and_self, Bool.true_or, Nat.reduceAdd, Nat.reduceSub, Nat.reduceMul, Nat.zero_add, Int.toNat_natCast, evK_go, reduceIte, decide_true, Nat.reduceEqDiff, Nat.reduceLT, and_self, true_and, Int.zero_add, Int.ofNat_lt, Int.natCast_nonneg]
            refine OrH.l ⟨DrawH.of follows_mixed (by kernel_rfl), ?_⟩
            (repeat refine OrH.l ?_)
            refine cdK_dec (fun h3 => ?_) (fun h3 => ?_)
            · rw [if_pos (by omega)] at hs
              simp (implicitDefEqProofs := false) (dsimp := false) only [hkg, hkl, nD, rset_callD, hl40, ↓atK_H, ↓atH_map, ↓aw_reg, ↓Qseq_n, ↓Qblk_n, ↓ops_nil, ↓ops_cons, ↓eval_tmp, ↓eval_int, ↓eval_func, ↓put_some, ↓iK_i, ↓binE_i, ↓bi_add, ↓in_i64, ↓ldK_q, ↓iaK_l, ↓op_move, ↓op_assign, ↓op_load, ↓op_bin, ↓op_ia, ↓op_call, isD_d, ↓fnK_f, ↓call_H, ↓callK_H, ↓allT_nil, ↓allT_cons, ↓td_d, ↓cells_c, ↓hd_cons, ↓ty3, ↓sl24, List.getD_cons_zero, List.getD_cons_succ, List.set_cons_zero, List.set_cons_succ, List.append_nil, List.length_cons, List.length_nil, List.all_cons, List.all_nil, Bool.true_and, Bool.and_self, Bool.true_or, Nat.reduceAdd, Nat.reduceSub, Nat.reduceMul, Nat.zero_add, Int.toNat_natCast, evK_go, reduceIte, Nat.reduceEqDiff, Nat.reduceLT, and_self, true_and, Int.zero_add, Int.natCast_nonneg]
              (repeat refine OrH.l ?_)
              refine ⟨by omega, k + 1, by omega, by omega, ?_⟩
              refine Wkn.of [] [] ?_; simp (implicitDefEqProofs := false) (dsimp := false) only [hs, List.set_cons_zero, List.set_cons_succ, Bool.and_self, Nat.reduceAdd, Nat.reduceSub, Nat.reduceMul, List.replicate, evK_go, reduceIte, Nat.reduceEqDiff, Nat.reduceLT, and_self, List.foldl_cons, List.foldl_nil, Int.cast_ofNat_Int, Int.natCast_add, slots, wkL_nil, wkL_cons, wkB_nil, wkR_nil, wkV_j, wkV_d, frz_d, reduceCtorEq]
            · rw [if_neg (by omega)] at hs
              simp (implicitDefEqProofs := false) (dsimp := false) only [↓aw_skip, ↓aw_reg, ↓Qseq_n, ↓Qblk_n, ↓ops_nil, ↓ops_cons, ↓eval_tmp, ↓eval_int, ↓put_some, ↓binE_i, ↓bi_add, ↓in_i64, ↓op_move, ↓op_assign, ↓op_bin, List.getD_cons_zero, List.getD_cons_succ, List.set_cons_zero, List.set_cons_succ, Nat.reduceAdd, Nat.reduceSub, Nat.reduceMul, evK_go, reduceIte, Nat.reduceEqDiff, Nat.reduceLT]
              refine ⟨by omega, k + 1, by omega, by omega, ?_⟩
              refine Wkn.of [] [] ?_; simp (implicitDefEqProofs := false) (dsimp := false) only [hs, List.set_cons_zero, List.set_cons_succ, Bool.and_self, Nat.reduceAdd, Nat.reduceSub, Nat.reduceMul, List.replicate, evK_go, reduceIte, Nat.reduceEqDiff, Nat.reduceLT, and_self, List.foldl_cons, List.foldl_nil, Int.cast_ofNat_Int, Int.natCast_add, slots, wkL_nil, wkL_cons, wkB_nil, wkR_nil, wkV_j, wkV_d, frz_d, reduceCtorEq]
          · obtain rfl : k = n := by omega
            simp (implicitDefEqProofs := false) (dsimp := false) only [↓aw_seq, ↓aw_exit, ↓aw_ret, ↓aw_reg, ↓Qseq_n, ↓Qseq_x, ↓Qblk_n, ↓Qblk_x, ↓Qret_r, ↓ops_nil, ↓ops_cons, ↓eval_tmp, ↓eval_int, ↓put_some, ↓binE_i, ↓bi_add, ↓in_i64, ↓op_move, ↓op_assign, ↓op_bin, ↓td_d, ↓ret_1, List.getD_cons_zero, List.getD_cons_succ, List.set_cons_zero, List.set_cons_succ, Nat.reduceAdd, Nat.reduceSub, Nat.reduceMul, evK_go, reduceIte, decide_false, Nat.reduceEqDiff, Nat.reduceLT, Nat.lt_irrefl]
            refine ⟨by omega, x + 1, by omega, by omega, ?_⟩
            refine Wkn.of [] [] ?_; simp (implicitDefEqProofs := false) (dsimp := false) only [hsj, List.set_cons_zero, List.set_cons_succ, Bool.and_self, Nat.reduceAdd, Nat.reduceSub, Nat.reduceMul, List.replicate, evK_go, reduceIte, Nat.reduceEqDiff, Nat.reduceLT, and_self, List.foldl_cons, List.foldl_nil, Int.cast_ofNat_Int, Int.natCast_add, slots, wkL_nil, wkL_cons, wkB_nil, wkR_nil, wkV_j, wkV_d, frz_d, reduceCtorEq]
      · have hp1 : p ≠ [] := fun e => hp0 (by rw [e]; rfl)
        rw [if_neg hp1] at hsj hbl hblt hlow hlen hget
        simp (implicitDefEqProofs := false) (dsimp := false) only [↓aw_seq, ↓aw_block, ↓aw_skip, ↓aw_loop, ↓aw_reg, ↓Qseq_n, ↓ops_nil, ↓ops_cons, ↓eval_int, ↓put_some, ↓op_assign, List.set_cons_zero, List.set_cons_succ, Nat.reduceAdd, Nat.reduceSub, Nat.reduceMul, evK_go, reduceIte, Nat.reduceEqDiff, Nat.reduceLT]
        refine loopW (fun k : Nat => { tm := slots 76 [(0, .d (.l (A.map lnR))), (1, .d (.l (B.map lnR))), (2, .d (.l (so.map nD))), (7, .d (.l ((lowR A g p k).map nD))), (8, .d (I .i64 x)), (9, .d (.l (g.map nD))), (10, .d (I .i64 k))], bx := [], rw := [] })
          (fun k => k ≤ n) (fun k => n - k) 0 (by simp) ?_ ?_
        · refine Wkn.of [] [] ?_; simp (implicitDefEqProofs := false) (dsimp := false) only [List.set_cons_zero, List.set_cons_succ, Bool.and_true, Bool.true_and, Bool.and_self, Nat.reduceAdd, Nat.reduceSub, Nat.reduceMul, List.replicate, evK_go, reduceIte, Nat.reduceEqDiff, Nat.reduceLT, and_self, true_and, and_true, List.foldl_cons, List.foldl_nil, Int.cast_ofNat_Int, slots, wkL_nil, wkL_cons, wkB_nil, wkR_nil, wkV_j, wkV_d, frz_d, dl_eq, reduceCtorEq]
          rfl
        · intro k hk
          simp (implicitDefEqProofs := false) (dsimp := false) only [slots, hAl, ↓aw_cond, ↓aw_seq, ↓aw_reg, ↓Qseq_n, ↓ops_nil, ↓ops_cons, ↓eval_tmp, ↓put_some, ↓bK_b, ↓lenK_l, ↓binE_i, ↓bi_lss, ↓op_move, ↓op_bin, ↓op_len, ↓sl69, List.getD_cons_zero, List.getD_cons_succ, List.set_cons_zero, List.set_cons_succ, List.length_map, Nat.reduceAdd, Nat.reduceSub, Nat.reduceMul, List.replicate, evK_go, reduceIte, Nat.reduceEqDiff, Nat.reduceLT, List.foldl_cons, List.foldl_nil, Int.ofNat_lt]
          refine cdK_dec (fun h2 => ?_) (fun h2 => ?_)
          · have hkn : k < n := by omega
            have hkA : k < A.length := by omega
            have hkg : k < g.length := by omega
            have hlk := hlen k
            have hkl : k < (lowR A g p k).length := by omega
            have hl40 : (lowR A g p k).length < 2 ^ 40 ∧ k < (lowR A g p k).length := ⟨by omega, hkl⟩
            have hgk := hglt _ (getD_mem hkg)
            have hbk := hlow k hk _ (getD_mem hkl)
            have m1 := hA.mem hkn hgk
            have m2 := hA.mem hkn hbk
            have l1 : (A.getD k default).length < 2 ^ 62 := by rw [(hA.row hkn).1]; omega
            have hs : lowR A g p (k + 1) = if rk A k (g.getD k default) < rk A k ((lowR A g p k).getD k default) then (lowR A g p k).set k (g.getD k default) else lowR A g p k := rfl
            unfold rk at hs
            generalize lowR A g p k = z at *
            simp (implicitDefEqProofs := false) (dsimp := false) only [hkn, hkA, hkg, hkl, lnR, nD, rplaceN_callQ, m1, m2, l1, ↓atK_H, ↓atH_map, ↓aw_cond, ↓aw_seq, ↓aw_block, ↓aw_skip, ↓aw_draw, ↓Qseq_n, ↓eval_tmp, ↓eval_func, ↓put_some, ↓bK_b, ↓iK_i, ↓ev_move, ↓ev_load, ↓ev_bin, ↓ev_ia, ↓binE_i, ↓bi_lss, ↓ldK_q, ↓iaK_l, isD_d, ↓fnK_f, ↓callKQ_H, ↓allT_nil, ↓allT_cons, ↓td_d, ↓draw_H, ↓h_nil, ↓h_cons, ↓ldH_n, ↓q_call, ↓q_move, ↓q_load, ↓q_bin, ↓q_ia, ↓il_move, ↓il_load, ↓il_bin, ↓il_ia, ↓il_call, ↓cells_c, ↓cells_l, ↓hd_cons, ↓ty3, ↓ty24, ↓sl24, ↓sl69, List.getD_cons_zero, List.getD_cons_succ, List.set_cons_zero, List.set_cons_succ, List.append_nil, List.length_cons, List.length_nil, List.all_cons, List.all_nil, Bool.true_and, Bool.and_self, Bool.true_or, Nat.reduceAdd, Nat.reduceSub, Nat.reduceMul, Nat.zero_add, Int.toNat_natCast, evK_go, reduceIte, decide_true, Nat.reduceEqDiff, Nat.reduceLT, and_self, true_and, Int.zero_add, Int.ofNat_lt, Int.natCast_nonneg]
            refine OrH.l ⟨DrawH.of follows_mixed (by kernel_rfl), ?_⟩
            (repeat refine OrH.l ?_)
            refine cdK_dec (fun h3 => ?_) (fun h3 => ?_)
            · rw [if_pos (by omega)] at hs
              simp (implicitDefEqProofs := false) (dsimp := false) only [hkg, hkl, nD, rset_callD, hl40, ↓atK_H, ↓atH_map, ↓aw_reg, ↓Qseq_n, ↓Qblk_n, ↓ops_nil, ↓ops_cons, ↓eval_tmp, ↓eval_int, ↓eval_func, ↓put_some, ↓iK_i, ↓binE_i, ↓bi_add, ↓in_i64, ↓ldK_q, ↓iaK_l, ↓op_move, ↓op_assign, ↓op_load, ↓op_bin, ↓op_ia, ↓op_call, isD_d, ↓fnK_f, ↓call_H, ↓callK_H, ↓allT_nil, ↓allT_cons, ↓td_d, ↓cells_c, ↓hd_cons, ↓ty3, ↓sl24, List.getD_cons_zero, List.getD_cons_succ, List.set_cons_zero, List.set_cons_succ, List.append_nil, List.length_cons, List.length_nil, List.all_cons, List.all_nil, Bool.true_and, Bool.and_self, Bool.true_or, Nat.reduceAdd, Nat.reduceSub, Nat.reduceMul, Nat.zero_add, Int.toNat_natCast, evK_go, reduceIte, Nat.reduceEqDiff, Nat.reduceLT, and_self, true_and, Int.zero_add, Int.natCast_nonneg]
              (repeat refine OrH.l ?_)
              refine ⟨by omega, k + 1, by omega, by omega, ?_⟩
              refine Wkn.of [] [] ?_; simp (implicitDefEqProofs := false) (dsimp := false) only [hs, List.set_cons_zero, List.set_cons_succ, Bool.and_self, Nat.reduceAdd, Nat.reduceSub, Nat.reduceMul, List.replicate, evK_go, reduceIte, Nat.reduceEqDiff, Nat.reduceLT, and_self, List.foldl_cons, List.foldl_nil, Int.cast_ofNat_Int, Int.natCast_add, slots, wkL_nil, wkL_cons, wkB_nil, wkR_nil, wkV_j, wkV_d, frz_d, reduceCtorEq]
            · rw [if_neg (by omega)] at hs
              simp (implicitDefEqProofs := false) (dsimp := false) only [↓aw_skip, ↓aw_reg, ↓Qseq_n, ↓Qblk_n, ↓ops_nil, ↓ops_cons, ↓eval_tmp, ↓eval_int, ↓put_some, ↓binE_i, ↓bi_add, ↓in_i64, ↓op_move, ↓op_assign, ↓op_bin, List.getD_cons_zero, List.getD_cons_succ, List.set_cons_zero, List.set_cons_succ, Nat.reduceAdd, Nat.reduceSub, Nat.reduceMul, evK_go, reduceIte, Nat.reduceEqDiff, Nat.reduceLT]
              refine ⟨by omega, k + 1, by omega, by omega, ?_⟩
              refine Wkn.of [] [] ?_; simp (implicitDefEqProofs := false) (dsimp := false) only [hs, List.set_cons_zero, List.set_cons_succ, Bool.and_self, Nat.reduceAdd, Nat.reduceSub, Nat.reduceMul, List.replicate, evK_go, reduceIte, Nat.reduceEqDiff, Nat.reduceLT, and_self, List.foldl_cons, List.foldl_nil, Int.cast_ofNat_Int, Int.natCast_add, slots, wkL_nil, wkL_cons, wkB_nil, wkR_nil, wkV_j, wkV_d, frz_d, reduceCtorEq]
          · obtain rfl : k = n := by omega
            simp (implicitDefEqProofs := false) (dsimp := false) only [↓aw_seq, ↓aw_exit, ↓aw_ret, ↓aw_reg, ↓Qseq_n, ↓Qseq_x, ↓Qblk_n, ↓Qblk_x, ↓Qret_r, ↓ops_nil, ↓ops_cons, ↓eval_tmp, ↓eval_int, ↓put_some, ↓binE_i, ↓bi_add, ↓in_i64, ↓op_move, ↓op_assign, ↓op_bin, ↓td_d, ↓ret_1, List.getD_cons_zero, List.getD_cons_succ, List.set_cons_zero, List.set_cons_succ, Nat.reduceAdd, Nat.reduceSub, Nat.reduceMul, evK_go, reduceIte, decide_false, Nat.reduceEqDiff, Nat.reduceLT, Nat.lt_irrefl]
            refine ⟨by omega, x + 1, by omega, by omega, ?_⟩
            refine Wkn.of [] [] ?_; simp (implicitDefEqProofs := false) (dsimp := false) only [hsj, List.set_cons_zero, List.set_cons_succ, Bool.and_self, Nat.reduceAdd, Nat.reduceSub, Nat.reduceMul, List.replicate, evK_go, reduceIte, Nat.reduceEqDiff, Nat.reduceLT, and_self, List.foldl_cons, List.foldl_nil, Int.cast_ofNat_Int, Int.natCast_add, slots, wkL_nil, wkL_cons, wkB_nil, wkR_nil, wkV_j, wkV_d, frz_d, reduceCtorEq]
end Go.Proofs

namespace Go.Proofs
open Go.Aw
set_option linter.unusedSimpArgs false
set_option maxRecDepth 10000
theorem ints00_spec  : FnD Tryd.prog 25 [.l [], .l []] (Bo true) := by
  exact ints_spec [] [] (by decide)
theorem ints00_call  (pure : Bool) (σ : St) (dst : Option Tmp) (K : St → Prop) : CallH Tryd.prog 25 [.l [], .l []] pure σ dst (.mk : Hid K) = OrH ((pure || D.flat (Bo true)) = true ∧ evK (σ.put dst (.d (Bo true))) (.mk : Hid K)) (.mk : Hid (CallH Tryd.prog 25 [.l [], .l []] pure σ dst (.mk : Hid K))) := CallH.eq0 (ints00_spec ) pure σ dst K
end Go.Proofs

namespace Go.Proofs
open Go.Aw
set_option linter.unusedSimpArgs false
set_option maxRecDepth 10000
set_option maxHeartbeats 1000000
theorem pairs_full {n : Nat} {G : List Nat} (hl : G.length = n) (hp : Pairs n fun i => G.getD i default) : FullR n G := by
  have hg : ∀ i (h : i < G.length), G.getD i default = G[i] := fun i h => by rw [List.getD_eq_getElem?_getD, List.getElem?_eq_getElem h]; rfl
  refine ⟨hl, ?_, ?_⟩
  · rw [List.Nodup, List.pairwise_iff_getElem]
    intro i j hi hj hij e
    have := hp.inj i j (by omega) (by omega) (by show G.getD i default = G.getD j default; rw [hg i hi, hg j hj]; exact e)
    omega
  · intro y hy
    obtain ⟨i, hi, rfl⟩ := List.mem_iff_getElem.1 hy
    have := hp.lt i (by omega)
    rwa [hg i hi] at this
theorem lStableSays_spec (L R : List (List Int)) (h : List Int) (hL : L.length < 2 ^ 43 ∧ ∀ x ∈ L, x.length < 2 ^ 44) (hR : R.length < 2 ^ 43 ∧ ∀ x ∈ R, x.length < 2 ^ 44) (hh : h.length < 2 ^ 44) :
    FnD Tryd.prog 14 [.l (L.map liD), .l (R.map liD), .l (h.map (I .i64))] (Bo true) := by
  have hpre : (L.length < 2 ^ 62 ∧ ∀ x ∈ L, x.length < 2 ^ 62) ∧ R.length < 2 ^ 62 ∧ ∀ x ∈ R, x.length < 2 ^ 62 := ⟨⟨by omega, fun x hx => by have := hL.2 x hx; omega⟩, by omega, fun x hx => by have := hR.2 x hx; omega⟩
  have hpre2 : ((L.length < 2 ^ 62 ∧ ∀ x ∈ L, x.length < 2 ^ 62) ∧ R.length < 2 ^ 62 ∧ ∀ x ∈ R, x.length < 2 ^ 62) ∧ h.length < 2 ^ 62 := ⟨hpre, by omega⟩
  have hh62 : h.length < 2 ^ 62 := hpre2.2
  refine FnD.go Tryd.func14 rfl rfl Tryd.results14 Tryd.ntmps14 ?_
  simp (implicitDefEqProofs := false) (dsimp := false) only [↓aw_seq, ↓aw_reg, ↓Qseq_n, ↓ops_nil, ↓ops_cons, ↓eval_tmp, ↓eval_bool, ↓eval_func, ↓put_some, ↓op_move, ↓op_assign, ↓op_call, isD_d, ↓fnK_f, ↓call_H, ↓callK_H, ↓allT_nil, ↓allT_cons, ↓td_d, List.getD_cons_zero, List.getD_cons_succ, List.set_cons_zero, List.set_cons_succ, List.cons_append, List.nil_append, List.append_nil, List.map_cons, List.map_nil, List.length_cons, List.length_nil, List.all_cons, List.all_nil, Bool.and_self, Nat.reduceAdd, Nat.reduceSub, Nat.reduceMul, Nat.zero_add, List.replicate, evK_go, reduceIte, Nat.reduceEqDiff, Nat.reduceLT, and_self, Int.zero_add]
  simp (implicitDefEqProofs := false) (dsimp := false) only [rorders_call, scheck_call, hpre, eerr_call, er_flat, ↓aw_cond, ↓aw_seq, ↓aw_reg, ↓Qseq_n, ↓ops_nil, ↓ops_cons, ↓eval_tmp, ↓eval_int, ↓eval_nil, ↓eval_func, ↓put_some, ↓bK_b, ↓binE_i, ↓bi_eql, ↓op_move, ↓op_assign, ↓op_bin, ↓op_call, isD_d, ↓fnK_f, ↓call_H, ↓callK_H, ↓allT_nil, ↓allT_cons, ↓td_d, List.getD_cons_zero, List.getD_cons_succ, List.set_cons_zero, List.set_cons_succ, List.append_nil, List.all_cons, List.all_nil, Bool.true_and, Bool.and_self, Bool.or_true, Bool.true_or, Nat.reduceAdd, Nat.reduceSub, Nat.reduceMul, evK_go, reduceIte, decide_true, Nat.reduceEqDiff, Nat.reduceLT, and_self, true_and]
  have hxx := And.intro hpre.1.2 hpre.2.2
  (repeat refine OrH.l ?_)
  refine ⟨hxx, ?_⟩
  (repeat refine OrH.l ?_)
  refine ⟨hxx, ?_⟩
  (repeat refine OrH.l ?_)
  refine cdK_dec (fun hc => ?_) (fun hc => ?_)
  rotate_left
  · have e : pairsR L R = [] := if_neg hc
    have e2 : isE L R h = stE L R := if_neg hc
    have e3 : isB L R h = false := isB_not (by rw [e2]; exact hc)
    simp (implicitDefEqProofs := false) (dsimp := false) only [spairs_call, hpre, e, eerr_call, ints00_call, ↓cdK_true, ↓gdK_t, ↓gval_mk, ↓gvL_zero, ↓gvL_succ, ↓nthK_H, ↓nthH_zero, ↓nthH_succ, ↓aw_seq, ↓aw_skip, ↓aw_reg, ↓Qseq_n, ↓ops_nil, ↓ops_cons, ↓ops_guard, ↓eval_tmp, ↓eval_int, ↓eval_func, ↓put_some, ↓bK_b, ↓tK_t, ↓binE_i, ↓bi_eql, ↓op_move, ↓op_assign, ↓op_pick, ↓op_bin, ↓op_extract, ↓op_call, isD_d, isD_nl, ↓fnK_f, ↓call_H, ↓callK_H, ↓allT_nil, ↓allT_cons, ↓td_d, ↓td_nl, ↓st_tm, List.getD_cons_zero, List.getD_cons_succ, List.set_cons_zero, List.set_cons_succ, List.append_nil, List.map_nil, List.all_cons, List.all_nil, Bool.true_and, Bool.and_self, Bool.true_or, Nat.reduceAdd, Nat.reduceSub, Nat.reduceMul, evK_go, reduceIte, decide_true, Nat.reduceEqDiff, Nat.reduceLT, and_self, true_and]
    (repeat refine OrH.l ?_)
    refine ⟨hxx, ?_⟩
    (repeat refine OrH.l ?_)
    simp (implicitDefEqProofs := false) (dsimp := false) only [decide_eq_false hc, hpre2, e2, e3, sis_call, eerr_call, ↓bo_eql, ↓cdK_true, ↓cdK_false, ↓gdK_t, ↓gval_mk, ↓gvL_zero, ↓gvL_succ, ↓nthK_H, ↓nthH_zero, ↓nthH_succ, ↓aw_cond, ↓aw_seq, ↓aw_ret, ↓aw_skip, ↓aw_reg, ↓Qseq_n, ↓Qret_r, ↓ops_nil, ↓ops_cons, ↓ops_guard, ↓eval_tmp, ↓eval_int, ↓eval_bool, ↓eval_func, ↓put_some, ↓bK_b, ↓tK_t, ↓binE_i, ↓bi_eql, ↓op_move, ↓op_assign, ↓op_pick, ↓op_bin, ↓op_extract, ↓op_call, isD_d, ↓fnK_f, ↓call_H, ↓callK_H, ↓allT_nil, ↓allT_cons, ↓td_d, ↓ret_1, ↓st_tm, List.getD_cons_zero, List.getD_cons_succ, List.set_cons_zero, List.set_cons_succ, List.append_nil, List.all_cons, List.all_nil, Bool.and_true, Bool.true_and, Bool.and_self, Bool.true_or, Nat.reduceAdd, Nat.reduceSub, Nat.reduceMul, evK_go, reduceIte, decide_true, Nat.reduceEqDiff, Nat.reduceLT, and_self, true_and, and_true]
    (repeat refine OrH.l ?_)
    refine ⟨hxx, ?_⟩
    (repeat refine OrH.l ?_)
    rfl
  have ok := st_ok hc
  have e1 : pairsR L R = gale L.length (toN L) (toN R) := if_pos hc
  obtain ⟨g1, g2, g3, g4⟩ := gale_spec ok.pL ok.pR
  have hG := pairs_full g1 g2
  have hcs := rstables_spec L.length (toN L) (toN R) ok.pL ok.pR ok.hi L.length [] (by simp) List.nodup_nil (by simp)
  rw [stbs_gale ok.pL ok.pR hG, ← e1, ← ok.dL, ← ok.dR] at hcs
  have hcs := CallH.eq0 hcs
  simp (implicitDefEqProofs := false) (dsimp := false) only [List.map_nil] at hcs
  have hP62 : (pairsR L R).length < 2 ^ 62 := by rw [e1, g1]; have := ok.hi; omega
  simp (implicitDefEqProofs := false) (dsimp := false) only [hcs, spairs_call, hpre, hc, eerr_call, intsN_call, hP62, ↓cdK_true, ↓cdK_not, ↓gdK_t, ↓gval_mk, ↓gvL_zero, ↓gvL_succ, ↓nthK_H, ↓nthH_zero, ↓nthH_succ, ↓aw_cond, ↓aw_seq, ↓aw_reg, ↓Qseq_n, ↓ops_nil, ↓ops_cons, ↓ops_guard, ↓eval_tmp, ↓eval_int, ↓eval_nil, ↓eval_func, ↓put_some, ↓bK_b, ↓lenK_l, ↓tK_t, ↓binE_i, ↓bi_eql, ↓bi_neq, ↓op_move, ↓op_assign, ↓op_pick, ↓op_bin, ↓op_extract, ↓op_len, ↓op_call, isD_d, isD_nl, ↓fnK_f, ↓call_H, ↓callK_H, ↓allT_nil, ↓allT_cons, ↓td_d, ↓td_nl, ↓st_tm, ↓sl24, ↓sl69, List.getD_cons_zero, List.getD_cons_succ, List.set_cons_zero, List.set_cons_succ, List.append_nil, List.length_map, List.all_cons, List.all_nil, Bool.true_and, Bool.and_self, Bool.true_or, Nat.reduceAdd, Nat.reduceSub, Nat.reduceMul, evK_go, reduceIte, decide_true, Nat.reduceEqDiff, Nat.reduceLT, and_self, true_and, Int.natCast_inj]
  (repeat refine OrH.l ?_)
  refine ⟨hxx, ?_⟩
  (repeat refine OrH.l ?_)
  have hE : isE L R h = rowE L.length h := if_pos hc
  have hn6 := ok.hi
  have h30 : decide ((3 : Int) = 0) = false := by decide
  have h10 : decide ((1 : Int) = 0) = false := by decide
  have h60 : decide ((6 : Int) = 0) = false := by decide
  refine cdK_dec (fun h1 => ?_) (fun h1 => ?_)
  rotate_left
  · have hr : rowE L.length h = 3 := by unfold rowE; rw [if_pos (by omega)]
    have e2 : isE L R h = 3 := by rw [hE, hr]
    have e3 : isB L R h = false := isB_not (by rw [e2]; decide)
    simp (implicitDefEqProofs := false) (dsimp := false) only [h30, hh62, sis_call, hpre2, e2, e3, eerr_call, ↓bo_eql, ↓cdK_true, ↓cdK_false, ↓gdK_t, ↓gval_mk, ↓gvL_zero, ↓gvL_succ, ↓nthK_H, ↓nthH_zero, ↓nthH_succ, ↓aw_cond, ↓aw_seq, ↓aw_ret, ↓aw_skip, ↓aw_reg, ↓Qseq_n, ↓Qret_r, ↓ops_nil, ↓ops_cons, ↓ops_guard, ↓eval_tmp, ↓eval_int, ↓eval_bool, ↓eval_func, ↓put_some, ↓bK_b, ↓tK_t, ↓binE_i, ↓bi_eql, ↓op_move, ↓op_assign, ↓op_pick, ↓op_bin, ↓op_extract, ↓op_call, isD_d, ↓fnK_f, ↓call_H, ↓callK_H, ↓allT_nil, ↓allT_cons, ↓td_d, ↓ret_1, ↓st_tm, List.getD_cons_zero, List.getD_cons_succ, List.set_cons_zero, List.set_cons_succ, List.append_nil, List.all_cons, List.all_nil, Bool.and_true, Bool.true_and, Bool.and_self, Bool.true_or, Nat.reduceAdd, Nat.reduceSub, Nat.reduceMul, evK_go, reduceIte, decide_true, Nat.reduceEqDiff, Nat.reduceLT, and_self, true_and, and_true]
    (repeat refine OrH.l ?_)
    refine ⟨hxx, ?_⟩
    (repeat refine OrH.l ?_)
    rfl
  have h1' : h.length = L.length := by omega
  simp (implicitDefEqProofs := false) (dsimp := false) only [allR_call, hh62, ↓cdK_true, ↓cdK_not, ↓gdK_t, ↓gval_mk, ↓gvL_zero, ↓gvL_succ, ↓aw_cond, ↓aw_seq, ↓aw_skip, ↓aw_reg, ↓Qseq_n, ↓ops_nil, ↓ops_cons, ↓ops_guard, ↓eval_tmp, ↓eval_int, ↓eval_func, ↓put_some, ↓bK_b, ↓lenK_l, ↓binE_i, ↓bi_sub, ↓bi_eql, ↓in_i64, ↓op_move, ↓op_pick, ↓op_bin, ↓op_not, ↓op_len, ↓op_call, isD_d, ↓fnK_f, ↓call_H, ↓callK_H, ↓allT_nil, ↓allT_cons, ↓td_d, ↓st_tm, ↓sl69, List.getD_cons_zero, List.getD_cons_succ, List.set_cons_zero, List.set_cons_succ, List.append_nil, List.length_map, List.all_cons, List.all_nil, Bool.true_and, Bool.and_self, Bool.true_or, Nat.reduceAdd, Nat.reduceSub, Nat.reduceMul, evK_go, reduceIte, decide_true, Nat.reduceEqDiff, Nat.reduceLT, and_self, true_and]
  refine ⟨by omega, ?_⟩
  (repeat refine OrH.l ?_)
  refine cdK_split (fun h7 => ?_) (fun h7 => ?_)
  rotate_left
  · have hr : rowE L.length h = 1 := by unfold rowE; rw [if_neg (by omega), if_pos h7]
    have e2 : isE L R h = 1 := by rw [hE, hr]
    have e3 : isB L R h = false := isB_not (by rw [e2]; decide)
    simp (implicitDefEqProofs := false) (dsimp := false) only [h7, h10, hh62, sis_call, hpre2, e2, e3, eerr_call, ↓bo_eql, ↓cdK_true, ↓cdK_false, ↓gdK_t, ↓gval_mk, ↓gvL_zero, ↓gvL_succ, ↓nthK_H, ↓nthH_zero, ↓nthH_succ, ↓aw_cond, ↓aw_seq, ↓aw_ret, ↓aw_skip, ↓aw_reg, ↓Qseq_n, ↓Qret_r, ↓ops_nil, ↓ops_cons, ↓ops_guard, ↓eval_tmp, ↓eval_int, ↓eval_bool, ↓eval_func, ↓put_some, ↓bK_b, ↓tK_t, ↓binE_i, ↓bi_eql, ↓op_move, ↓op_assign, ↓op_pick, ↓op_bin, ↓op_extract, ↓op_call, isD_d, ↓fnK_f, ↓call_H, ↓callK_H, ↓allT_nil, ↓allT_cons, ↓td_d, ↓ret_1, ↓st_tm, List.getD_cons_zero, List.getD_cons_succ, List.set_cons_zero, List.set_cons_succ, List.append_nil, List.all_cons, List.all_nil, Bool.and_true, Bool.true_and, Bool.and_self, Bool.true_or, Nat.reduceAdd, Nat.reduceSub, Nat.reduceMul, evK_go, reduceIte, decide_true, Bool.not_false, Nat.reduceEqDiff, Nat.reduceLT, and_self, true_and, and_true]
    (repeat refine OrH.l ?_)
    refine ⟨hxx, ?_⟩
    (repeat refine OrH.l ?_)
    rfl
  simp (implicitDefEqProofs := false) (dsimp := false) only [h7, twice_call, hh62, ↓cdK_true, ↓gdK_t, ↓gval_mk, ↓gvL_zero, ↓gvL_succ, ↓aw_cond, ↓aw_seq, ↓aw_skip, ↓aw_reg, ↓Qseq_n, ↓ops_nil, ↓ops_cons, ↓ops_guard, ↓eval_tmp, ↓eval_int, ↓eval_func, ↓put_some, ↓bK_b, ↓binE_i, ↓bi_eql, ↓op_move, ↓op_pick, ↓op_bin, ↓op_call, isD_d, ↓fnK_f, ↓call_H, ↓callK_H, ↓allT_nil, ↓allT_cons, ↓td_d, ↓st_tm, List.getD_cons_zero, List.getD_cons_succ, List.set_cons_zero, List.set_cons_succ, List.append_nil, List.all_cons, List.all_nil, Bool.true_and, Bool.and_self, Bool.true_or, Nat.reduceAdd, Nat.reduceSub, Nat.reduceMul, evK_go, reduceIte, decide_true, Bool.not_true, Nat.reduceEqDiff, Nat.reduceLT, and_self, true_and]
  (repeat refine OrH.l ?_)
  refine cdK_split (fun h8 => ?_) (fun h8 => ?_)
  · have hno : ¬ h.Nodup := fun hn => by
      have : (!decide h.Nodup) = true := h8
      rw [decide_eq_true hn] at this; cases this
    have hr : rowE L.length h = 6 := by unfold rowE; rw [if_neg (by omega), if_neg (by rw [h7]; decide), if_neg hno]
    have e2 : isE L R h = 6 := by rw [hE, hr]
    have e3 : isB L R h = false := isB_not (by rw [e2]; decide)
    simp (implicitDefEqProofs := false) (dsimp := false) only [h8, h60, hh62, sis_call, hpre2, e2, e3, eerr_call, ↓bo_eql, ↓cdK_true, ↓cdK_false, ↓gdK_t, ↓gval_mk, ↓gvL_zero, ↓gvL_succ, ↓nthK_H, ↓nthH_zero, ↓nthH_succ, ↓aw_seq, ↓aw_ret, ↓aw_reg, ↓Qseq_n, ↓Qret_r, ↓ops_nil, ↓ops_cons, ↓ops_guard, ↓eval_tmp, ↓eval_int, ↓eval_bool, ↓eval_func, ↓put_some, ↓bK_b, ↓tK_t, ↓binE_i, ↓bi_eql, ↓op_move, ↓op_assign, ↓op_pick, ↓op_bin, ↓op_extract, ↓op_call, isD_d, ↓fnK_f, ↓call_H, ↓callK_H, ↓allT_nil, ↓allT_cons, ↓td_d, ↓ret_1, ↓st_tm, List.getD_cons_zero, List.getD_cons_succ, List.set_cons_zero, List.set_cons_succ, List.append_nil, List.all_cons, List.all_nil, Bool.and_true, Bool.true_and, Bool.and_self, Bool.true_or, Nat.reduceAdd, Nat.reduceSub, Nat.reduceMul, evK_go, reduceIte, decide_true, Nat.reduceEqDiff, Nat.reduceLT, and_self, true_and, and_true]
    (repeat refine OrH.l ?_)
    refine ⟨hxx, ?_⟩
    (repeat refine OrH.l ?_)
    rfl
  have hnd : h.Nodup := by
    have : (!decide h.Nodup) = false := h8
    simpa using this
  have hr : rowE L.length h = 0 := by unfold rowE; rw [if_neg (by omega), if_neg (by rw [h7]; decide), if_pos hnd]
  have e2 : isE L R h = 0 := by rw [hE, hr]
  obtain ⟨q1, q2, q3⟩ := rowE_zero hr
  have hF : FullR L.length (h.map Int.toNat) := by
    refine ⟨by rw [List.length_map]; exact q1, ?_, fun y hy => ?_⟩
    · rw [List.Nodup, List.pairwise_map]
      refine q3.imp_of_mem fun {a b} ha hb hne e => ?_
      have := (q2 a ha).1
      have := (q2 b hb).1
      exact hne (by omega)
    · obtain ⟨z, hz, rfl⟩ := List.mem_map.1 hy
      have := q2 z hz
      omega
  have e3 : stb2 L.length (toN L) (toN R) (h.map Int.toNat) = isB L R h := by
    have e4 : isB L R h = stbL (toN L) (toN R) (h.map Int.toNat) := if_pos e2
    rw [e4, Bool.eq_iff_iff, stb2_iff hF, stbL_iff ok.pL hF.1 hF.2.1 hF.2.2]
  have hst := rstable_spec L.length (toN L) (toN R) (h.map Int.toNat) ⟨⟨ok.pL, ok.pR, hF⟩, hn6⟩
  rw [← ok.dL, ← ok.dR, e3, show (h.map Int.toNat).map nD = h.map (I .i64) by rw [nDI, toNat_back fun y hy => (q2 y hy).1]] at hst
  have hst := CallH.eq0 hst
  simp (implicitDefEqProofs := false) (dsimp := false) only [h8, sis_call, hpre2, hst, e2, eerr_call, ↓bo_eql, ↓cdK_true, ↓gdK_t, ↓gval_mk, ↓gvL_zero, ↓gvL_succ, ↓nthK_H, ↓nthH_zero, ↓nthH_succ, ↓aw_seq, ↓aw_ret, ↓aw_skip, ↓aw_reg, ↓Qseq_n, ↓Qret_r, ↓ops_nil, ↓ops_cons, ↓ops_guard, ↓eval_tmp, ↓eval_int, ↓eval_func, ↓put_some, ↓bK_b, ↓tK_t, ↓binE_i, ↓bi_eql, ↓op_move, ↓op_assign, ↓op_pick, ↓op_bin, ↓op_extract, ↓op_call, isD_d, ↓fnK_f, ↓call_H, ↓callK_H, ↓allT_nil, ↓allT_cons, ↓td_d, ↓ret_1, ↓st_tm, List.getD_cons_zero, List.getD_cons_succ, List.set_cons_zero, List.set_cons_succ, List.append_nil, List.all_cons, List.all_nil, Bool.and_true, Bool.true_and, Bool.and_self, Bool.true_or, Nat.reduceAdd, Nat.reduceSub, Nat.reduceMul, evK_go, reduceIte, decide_true, Nat.reduceEqDiff, Nat.reduceLT, and_self, true_and, and_true]
  (repeat refine OrH.l ?_)
  refine ⟨hxx, ?_⟩
  (repeat refine OrH.l ?_)
  rw [beq_self_eq_true]
end Go.Proofs

namespace Go.Proofs
set_option maxRecDepth 100000
theorem cutNo : ("cut".toList == "gc".toList || "cut".toList == "spec".toList) = false := by kernel_rfl
theorem cutNo2 : ("cut".toList == "carried".toList) = false := by kernel_rfl
theorem cutStrip (T : List (List Char)) : stripLifts liftWords ("cut".toList :: T) = ([], "cut".toList :: T) := by kernel_rfl
theorem make_of {P : Program} {T : List (List Char)} (h : behindMainWord (wordsSigns P.initOrder.toList) = "cut".toList :: T) : P.make = some .cut := by
  unfold Program.make
  rw [h]
  simp (implicitDefEqProofs := false) (dsimp := false) only [cutNo, beq_self_eq_true, Bool.true_or, Bool.false_eq_true, if_false, if_true]
theorem enter_of {P : Program} {T : List (List Char)} (h : behindMainWord (wordsSigns P.initOrder.toList) = "cut".toList :: T) (h1 : P.laysLater = false) (h2 : P.bearsReflect = false) (h3 : P.doorFits [] = true) : P.mayEnter = true := by
  unfold Program.mayEnter
  rw [h]
  simp (implicitDefEqProofs := false) (dsimp := false) only [cutStrip, cutNo, cutNo2, h1, h2, h3, List.head?_cons, beq_self_eq_true, Bool.not_false, Bool.or_true, Bool.and_true, Bool.true_and]
  rfl
theorem final_of {P : Program} {T : List (List Char)} (h : behindMainWord (wordsSigns P.initOrder.toList) = "cut".toList :: T) : P.liftsFinal = false := by
  unfold Program.liftsFinal Program.headLifts
  rw [h]
  simp (implicitDefEqProofs := false) (dsimp := false) only [cutStrip]
  kernel_rfl
theorem cutWord : behindMainWord (wordsSigns Tryd.prog.initOrder.toList) = "cut".toList :: (behindMainWord (wordsSigns Tryd.prog.initOrder.toList)).tail := by
  have h : Tryd.prog.initOrder.toList = _ := String.toList_ofList
  rw [h]
  show (_ : List (List Char)) = _
  kernel_rfl
theorem pLater : Tryd.prog.laysLater = false := by
  unfold Program.laysLater
  rw [← Array.any_toList]
  kernel_rfl
theorem pReflect : Tryd.prog.bearsReflect = false := by kernel_rfl
theorem pDoor : Tryd.prog.doorFits [] = true := by kernel_rfl
theorem pMake : Tryd.prog.make = some .cut := make_of cutWord
theorem pEnter : Tryd.prog.mayEnter = true := enter_of cutWord pLater pReflect pDoor
theorem pFinal : Tryd.prog.liftsFinal = false := final_of cutWord
theorem pLaid : laidOutB Tryd.prog = true := by kernel_rfl
theorem pRowed : mapsRowed Tryd.prog = true := by kernel_rfl
theorem pStops : (Tryd.prog.stops == []) = true := by kernel_rfl
theorem pKnobs : (Tryd.prog.stopKnobs == []) = true := by kernel_rfl
theorem pHeard : Tryd.prog.stopsHeard = true := by kernel_rfl
theorem pMain : Tryd.prog.mainIs = some (true, "ef528b23815b70c2662300e7e3ba81efdd8130d758234ace3c638d7836b90011".toList) := by
  have h : Tryd.prog.initOrder.toList = _ := String.toList_ofList
  unfold Program.mainIs
  rw [h]
  show (_ : Option (Bool × List Char)) = _
  kernel_rfl
theorem pLooks : true = Tryd.prog.looks [] := by kernel_rfl
theorem pOwn : ownKnob Tryd.prog.godebug = none := by kernel_rfl
theorem andB {a b : Bool} (ha : a = true) (hb : b = true) : (a && b) = true := by rw [ha, hb]; rfl
end Go.Proofs
