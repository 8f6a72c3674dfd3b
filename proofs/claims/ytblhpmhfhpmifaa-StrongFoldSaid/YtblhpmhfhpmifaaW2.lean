/- Part W 2 of what the proof of StrongFold stands on: what the functions of the program compute. -/
import Derived.Test.YtblhpmhfhpmifaaW1
set_option linter.unusedVariables false
set_option linter.unusedSimpArgs false
namespace Go.Proofs
open Go.Aw
set_option linter.unusedSimpArgs false
set_option maxRecDepth 10000
theorem inB_iff {x lo hi : Int} : inB x lo hi = true ↔ lo ≤ x ∧ x ≤ hi := by simp [inB]
theorem ptsI_mem (s : Nat) (c : Nat) : (c : Int) ∈ ptsI s ↔ c < 64 ∧ s.testBit c = true := by
  unfold ptsI
  rw [List.mem_map, ← pts_mem]
  exact ⟨fun ⟨x, h, e⟩ => by rw [← Int.ofNat_inj.1 e]; exact h, fun h => ⟨c, h, rfl⟩⟩
theorem mapP_get (W : List Nat) (i : Nat) : (W.map ptsI).getD i default = ptsI (W.getD i default) := by
  rw [List.getD_eq_getElem?_getD, List.getD_eq_getElem?_getD, List.getElem?_map]
  cases W[i]? <;> rfl
theorem lStrongBoth_spec (n : Int) (l : List (Int × Int)) (a b : Int) (_hn : -9223372036854775808 ≤ n ∧ n ≤ 9223372036854775807) (hpre : l.length < 2 ^ 43) (_ha : -9223372036854775808 ≤ a ∧ a ≤ 9223372036854775807) (_hb : -9223372036854775808 ≤ b ∧ b ≤ 9223372036854775807) :
    FnD Try.prog 19 [I .i64 n, .l (l.map lnD), I .i64 a, I .i64 b] (Bo true) := by
  have hl62 : l.length < 2 ^ 62 := by omega
  refine FnD.go Try.func19 rfl rfl Try.results19 Try.ntmps19 ?_
  simp (implicitDefEqProofs := false) (dsimp := false) only [↓aw_seq, ↓aw_reg, ↓Qseq_n, ↓ops_nil, ↓ops_cons, ↓eval_bool, ↓eval_func, ↓put_some, ↓op_assign, ↓op_call, isD_d, ↓fnK_f, ↓call_H, ↓callK_H, ↓allT_nil, ↓td_d, List.set_cons_zero, List.set_cons_succ, List.cons_append, List.nil_append, List.append_nil, List.map_cons, List.map_nil, List.length_cons, List.length_nil, List.all_nil, Bool.and_self, Nat.reduceAdd, Nat.reduceSub, Nat.reduceMul, Nat.zero_add, List.replicate, evK_go, reduceIte, Nat.reduceEqDiff, Nat.reduceLT, and_self, Int.zero_add]
  simp (implicitDefEqProofs := false) (dsimp := false) only [sfact_call, spartsS_call, hl62, eval_nilI, ↓er_neq, ↓cdK_false, ↓cdK_not, ↓nthK_H, ↓nthH_zero, ↓nthH_succ, ↓aw_cond, ↓aw_seq, ↓aw_skip, ↓aw_reg, ↓Qseq_n, ↓ops_nil, ↓ops_cons, ↓eval_tmp, ↓eval_func, ↓put_some, ↓bK_b, ↓tK_t, ↓op_move, ↓op_assign, ↓op_bin, ↓op_not, ↓op_extract, ↓op_call, isD_d, ↓fnK_f, ↓call_H, ↓callK_H, ↓allT_nil, ↓allT_cons, ↓td_d, List.getD_cons_zero, List.getD_cons_succ, List.set_cons_zero, List.set_cons_succ, List.append_nil, List.all_cons, List.all_nil, Bool.true_and, Bool.and_self, Bool.true_or, Nat.reduceAdd, Nat.reduceSub, Nat.reduceMul, evK_go, reduceIte, Bool.not_true, Nat.reduceEqDiff, Nat.reduceLT, and_self, true_and]
  refine OrH.l (OrH.l (OrH.l (OrH.l (cdK_dec (fun hc => ?_) (fun hc => ?_)))))
  rotate_left
  · have e1 : strongR n l = [] := if_neg hc
    simp (implicitDefEqProofs := false) (dsimp := false) only [e1, ↓aw_seq, ↓aw_ret, ↓aw_reg, ↓Qseq_n, ↓Qseq_r, ↓Qret_r, ↓ops_nil, ↓ops_cons, ↓eval_tmp, ↓eval_int, ↓put_some, ↓lenK_l, ↓binE_i, ↓bi_eql, ↓op_move, ↓op_assign, ↓op_bin, ↓op_len, ↓td_d, ↓ret_1, ↓sl28, List.getD_cons_zero, List.getD_cons_succ, List.set_cons_zero, List.set_cons_succ, List.map_nil, List.length_nil, Nat.reduceAdd, Nat.reduceSub, Nat.reduceMul, evK_go, reduceIte, decide_true, Nat.reduceEqDiff, Nat.reduceLT, Int.cast_ofNat_Int]
  simp (implicitDefEqProofs := false) (dsimp := false) only [call_call, hl62, hc, eval_nilI, ↓er_neq, ↓cdK_false, ↓cdK_not, ↓gdK_f, ↓gval_mk, ↓gvL_zero, ↓gvL_succ, ↓nthK_H, ↓nthH_zero, ↓nthH_succ, ↓aw_seq, ↓aw_skip, ↓aw_reg, ↓Qseq_n, ↓ops_nil, ↓ops_cons, ↓ops_guard, ↓eval_tmp, ↓eval_func, ↓put_some, ↓bK_b, ↓lenK_l, ↓tK_t, ↓binE_i, ↓bi_neq, ↓op_move, ↓op_assign, ↓op_pick, ↓op_bin, ↓op_extract, ↓op_len, ↓op_call, isD_d, ↓fnK_f, ↓call_H, ↓callK_H, ↓allT_nil, ↓allT_cons, ↓td_d, ↓st_tm, ↓sl28, List.getD_cons_zero, List.getD_cons_succ, List.set_cons_zero, List.set_cons_succ, List.append_nil, List.length_map, List.all_cons, List.all_nil, Bool.true_and, Bool.and_self, Bool.true_or, Nat.reduceAdd, Nat.reduceSub, Nat.reduceMul, evK_go, reduceIte, decide_true, Bool.not_true, Nat.reduceEqDiff, Nat.reduceLT, and_self, true_and]
  have ok := chk_ok hc
  have h8 := ok.hi
  have hlo := ok.lo
  have hg := ok.good
  have e0 := ok.n0
  rw [show strongR n l = strongP n.toNat (natL l) from if_pos hc, show closeAll n l = (war n.toNat (natL l)).map ptsI from if_pos hc]
  clear ok hc hl62 hpre
  generalize natL l = L at *
  generalize n.toNat = m at *
  subst e0
  have hP : (strongP m L).length = m := by simp [strongP]
  have hW : (war m L).length = m := war_len hg
  simp (implicitDefEqProofs := false) (dsimp := false) only [hP, hW, in2_call, ↓cdK_true, ↓cdK_false, ↓cdK_not, ↓gdK_f, ↓gval_mk, ↓gvL_zero, ↓gvL_succ, ↓ops_cons, ↓ops_guard, ↓eval_tmp, ↓eval_int, ↓eval_func, ↓put_some, ↓bK_b, ↓lenK_l, ↓binE_i, ↓bi_sub, ↓bi_neq, ↓in_i64, ↓op_move, ↓op_pick, ↓op_bin, ↓op_not, ↓op_len, ↓op_call, isD_d, ↓fnK_f, ↓call_H, ↓callK_H, ↓allT_nil, ↓allT_cons, ↓td_d, ↓st_tm, ↓sl44, List.getD_cons_zero, List.getD_cons_succ, List.set_cons_zero, List.set_cons_succ, List.append_nil, List.length_map, List.all_cons, List.all_nil, Bool.true_and, Bool.and_self, Bool.true_or, Nat.reduceAdd, Nat.reduceSub, Nat.reduceMul, evK_go, reduceIte, decide_true, Bool.not_true, Nat.reduceEqDiff, Nat.reduceLT, and_self, true_and]
  refine OrH.l (OrH.l ⟨by omega, OrH.l (OrH.l (cdK_split (fun hA => ?_) (fun hA => ?_)))⟩)
  rotate_left
  · simp (implicitDefEqProofs := false) (dsimp := false) only [hA, hP, hW, eval_nilI, ↓er_eql, ↓cdK_true, ↓gdK_t, ↓gdK_f, ↓gval_mk, ↓gvL_zero, ↓gvL_succ, ↓aw_cond, ↓aw_seq, ↓aw_ret, ↓aw_reg, ↓Qseq_n, ↓Qseq_r, ↓Qret_r, ↓ops_nil, ↓ops_cons, ↓ops_guard, ↓eval_tmp, ↓eval_bool, ↓put_some, ↓bK_b, ↓lenK_l, ↓binE_i, ↓bi_eql, ↓op_move, ↓op_assign, ↓op_pick, ↓op_bin, ↓op_len, ↓td_d, ↓ret_1, ↓st_tm, ↓sl28, ↓sl44, List.getD_cons_zero, List.getD_cons_succ, List.set_cons_zero, List.set_cons_succ, List.length_map, Nat.reduceAdd, Nat.reduceSub, Nat.reduceMul, evK_go, reduceIte, decide_true, Bool.not_false, Nat.reduceEqDiff, Nat.reduceLT]
  simp (implicitDefEqProofs := false) (dsimp := false) only [hA, in2_call, ↓cdK_false, ↓cdK_not, ↓gdK_f, ↓gval_mk, ↓gvL_zero, ↓gvL_succ, ↓aw_cond, ↓Qseq_n, ↓ops_nil, ↓ops_cons, ↓ops_guard, ↓eval_tmp, ↓eval_int, ↓eval_func, ↓put_some, ↓bK_b, ↓binE_i, ↓bi_sub, ↓in_i64, ↓op_move, ↓op_pick, ↓op_bin, ↓op_not, ↓op_call, isD_d, ↓fnK_f, ↓call_H, ↓callK_H, ↓allT_nil, ↓allT_cons, ↓td_d, ↓st_tm, List.getD_cons_zero, List.getD_cons_succ, List.set_cons_zero, List.set_cons_succ, List.append_nil, List.all_cons, List.all_nil, Bool.true_and, Bool.and_self, Bool.true_or, Nat.reduceAdd, Nat.reduceSub, Nat.reduceMul, evK_go, reduceIte, Bool.not_true, Nat.reduceEqDiff, Nat.reduceLT, and_self, true_and]
  refine ⟨by omega, OrH.l (OrH.l (cdK_split (fun hB => ?_) (fun hB => ?_)))⟩
  rotate_left
  · simp (implicitDefEqProofs := false) (dsimp := false) only [hB, hP, hW, eval_nilI, ↓er_eql, ↓cdK_true, ↓gdK_t, ↓gval_mk, ↓gvL_zero, ↓gvL_succ, ↓aw_seq, ↓aw_ret, ↓aw_reg, ↓Qseq_n, ↓Qseq_r, ↓Qret_r, ↓ops_nil, ↓ops_cons, ↓ops_guard, ↓eval_tmp, ↓put_some, ↓bK_b, ↓lenK_l, ↓binE_i, ↓bi_eql, ↓op_move, ↓op_assign, ↓op_pick, ↓op_bin, ↓op_len, ↓td_d, ↓ret_1, ↓st_tm, ↓sl28, ↓sl44, List.getD_cons_zero, List.getD_cons_succ, List.set_cons_zero, List.set_cons_succ, List.length_map, Nat.reduceAdd, Nat.reduceSub, Nat.reduceMul, evK_go, reduceIte, decide_true, Bool.not_false, Nat.reduceEqDiff, Nat.reduceLT]
  rw [inB_iff] at hA hB
  obtain ⟨x, rfl⟩ := Int.eq_ofNat_of_zero_le hA.1
  obtain ⟨y, rfl⟩ := Int.eq_ofNat_of_zero_le hB.1
  have hx : x < m := by omega
  have hy : y < m := by omega
  have hA' : inB (x : Int) 0 ((m : Int) - 1) = true := inB_iff.2 hA
  have hB' : inB (y : Int) 0 ((m : Int) - 1) = true := inB_iff.2 hB
  have hk : ∀ i j : Nat, (j : Int) ∈ ptsI ((war m L).getD i default) ↔ Path1 L i j := fun i j => by
    rw [ptsI_mem, war_bit hg]
    exact ⟨fun h => h.2, fun h => ⟨by have := (h.lt hg).2; omega, h⟩⟩
  have hl62 : ∀ i : Nat, (ptsI ((war m L).getD i default)).length < 2 ^ 62 := fun i => by have := ptsI_len ((war m L).getD i default); omega
  have hPx : (strongP m L).getD x default = part m L x := P_get hx
  have hPy : (strongP m L).getD y default = part m L y := P_get hy
  have hle := (part_mut (by omega) hg hx).2
  have hin : inB (part m L x : Int) 0 (x : Int) = true := inB_iff.2 ⟨by omega, by omega⟩
  have hiff := part_iff (by omega) hg hx hy
  simp (implicitDefEqProofs := false) (dsimp := false) only [hB', ↓gdK_f, ↓gval_mk, ↓gvL_zero, ↓gvL_succ, ↓aw_seq, ↓aw_skip, ↓aw_reg, ↓Qseq_n, ↓ops_cons, ↓ops_guard, ↓eval_tmp, ↓put_some, ↓binE_i, ↓bi_eql, ↓op_move, ↓op_bin, ↓st_tm, List.getD_cons_zero, List.getD_cons_succ, List.set_cons_zero, List.set_cons_succ, Nat.reduceAdd, Nat.reduceSub, Nat.reduceMul, evK_go, reduceIte, Bool.not_true, Nat.reduceEqDiff, Nat.reduceLT, Int.natCast_inj]
  refine cdK_dec (fun hxy => ?_) (fun hxy => ?_)
  · subst hxy
    simp (implicitDefEqProofs := false) (dsimp := false) only [hx, hP, hPx, nD, ↓bo_eql, ↓cdK_true, ↓gdK_junk, ↓gdK_t, ↓gdK_f, ↓gval_mk, ↓gvL_zero, ↓gvL_succ, ↓atK_H, ↓atH_map, ↓aw_seq, ↓aw_draw, ↓Qseq_n, ↓ops_nil, ↓ops_cons, ↓ops_guard, ↓eval_tmp, ↓eval_bool, ↓put_some, ↓bK_b, ↓iK_i, ↓ev_move, ↓ev_load, ↓ev_bin, ↓ev_ia, ↓binE_i, ↓bi_eql, ↓ldK_q, ↓iaK_l, ↓op_assign, ↓op_pick, ↓draw_H, ↓h_cons, ↓ldH_n, ↓ldH_g, ↓q_move, ↓q_load, ↓q_bin, ↓q_ia, ↓il_move, ↓il_load, ↓il_bin, ↓il_ia, ↓st_tm, ↓cells_c, ↓hd_cons, ↓ty3, ↓sl28, List.getD_cons_zero, List.getD_cons_succ, List.set_cons_zero, List.set_cons_succ, List.length_cons, List.length_nil, Bool.true_and, Nat.reduceAdd, Nat.reduceSub, Nat.reduceMul, Nat.zero_add, Int.toNat_natCast, evK_go, reduceIte, decide_true, Nat.reduceEqDiff, Nat.reduceLT, true_and, Int.zero_add, Int.natCast_nonneg]
    refine OrH.l ⟨DrawH.of follows_mixed (by kernel_rfl), ?_⟩
    simp (implicitDefEqProofs := false) (dsimp := false) only [beq_self_eq_true, hx, hP, hPx, nD, in2_callQ, hin, ↓cdK_true, ↓gdK_t, ↓gval_mk, ↓gvL_zero, ↓gvL_succ, ↓atK_H, ↓atH_map, ↓aw_ret, ↓Qseq_n, ↓Qret_r, ↓eval_tmp, ↓eval_int, ↓eval_func, ↓put_some, ↓bK_b, ↓iK_i, ↓ev_move, ↓ev_assign, ↓ev_pick, ↓ev_load, ↓ev_ia, ↓ldK_q, ↓iaK_l, ↓orH_T, isD_d, ↓fnK_f, ↓callKQ_H, ↓allT_nil, ↓allT_cons, ↓td_d, ↓ret_1, ↓h_nil, ↓h_cons, ↓ldH_n, ↓ldH_g, ↓q_call, ↓q_move, ↓q_assign, ↓q_pick, ↓q_load, ↓q_ia, ↓il_move, ↓il_assign, ↓il_pick, ↓il_load, ↓il_ia, ↓il_call, ↓st_tm, ↓cells_c, ↓hd_cons, ↓ty3, ↓sl28, List.getD_cons_zero, List.getD_cons_succ, List.set_cons_zero, List.set_cons_succ, List.append_nil, List.length_cons, List.length_nil, List.all_cons, List.all_nil, Bool.and_self, Bool.true_or, Nat.reduceAdd, Nat.reduceSub, Nat.reduceMul, Nat.zero_add, Int.toNat_natCast, evK_go, reduceIte, Nat.reduceEqDiff, Nat.reduceLT, and_self, Int.zero_add, Int.natCast_nonneg]
  · have hm : Mut L x y ↔ (Path1 L x y ∧ Path1 L y x) := ⟨fun h => ⟨h.1.cases1.resolve_left hxy, h.2.cases1.resolve_left fun e => hxy e.symm⟩, fun h => ⟨h.1.path, h.2.path⟩⟩
    rw [hm, ← hk, ← hk] at hiff
    by_cases h1 : (y : Int) ∈ ptsI ((war m L).getD x default)
    · by_cases h2 : (x : Int) ∈ ptsI ((war m L).getD y default)
      · have he := hiff.2 ⟨h1, h2⟩
        rw [he] at hin
        simp (implicitDefEqProofs := false) (dsimp := false) only [hx, hy, hP, hW, hxy, liD, mapP_get, hasR_call, hl62, h1, h2, nD, hPx, hPy, he, ↓bo_eql, ↓cdK_true, ↓cdK_false, ↓gdK_t, ↓gdK_f, ↓gval_mk, ↓gvL_zero, ↓gvL_succ, ↓atK_H, ↓atH_map, ↓aw_seq, ↓aw_draw, ↓Qseq_n, ↓ops_nil, ↓ops_cons, ↓ops_guard, ↓eval_tmp, ↓eval_func, ↓put_some, ↓bK_b, ↓iK_i, ↓ev_move, ↓ev_load, ↓ev_bin, ↓ev_ia, ↓binE_i, ↓bi_eql, ↓ldK_q, ↓iaK_l, ↓op_move, ↓op_assign, ↓op_pick, ↓op_load, ↓op_ia, ↓op_call, isD_d, ↓fnK_f, ↓call_H, ↓callK_H, ↓allT_nil, ↓allT_cons, ↓td_d, ↓draw_H, ↓h_cons, ↓ldH_n, ↓ldH_g, ↓q_move, ↓q_load, ↓q_bin, ↓q_ia, ↓il_move, ↓il_load, ↓il_bin, ↓il_ia, ↓st_tm, ↓cells_c, ↓cells_l, ↓hd_cons, ↓ty3, ↓ty28, ↓sl28, ↓sl44, List.getD_cons_zero, List.getD_cons_succ, List.set_cons_zero, List.set_cons_succ, List.append_nil, List.length_cons, List.length_nil, List.length_map, List.all_cons, List.all_nil, Bool.true_and, Bool.and_self, Bool.true_or, Nat.reduceAdd, Nat.reduceSub, Nat.reduceMul, Nat.zero_add, Int.toNat_natCast, evK_go, reduceIte, decide_true, decide_false, Nat.reduceEqDiff, Nat.reduceLT, and_self, true_and, Int.zero_add, Int.natCast_nonneg]
        repeat refine OrH.l ?_
        refine ⟨DrawH.of follows_mixed (by kernel_rfl), ?_⟩
        simp (implicitDefEqProofs := false) (dsimp := false) only [beq_self_eq_true, hx, hP, nD, hPx, he, in2_callQ, hin, ↓cdK_true, ↓gdK_t, ↓gval_mk, ↓gvL_zero, ↓gvL_succ, ↓atK_H, ↓atH_map, ↓aw_ret, ↓Qseq_n, ↓Qret_r, ↓eval_tmp, ↓eval_int, ↓eval_func, ↓put_some, ↓bK_b, ↓iK_i, ↓ev_move, ↓ev_assign, ↓ev_pick, ↓ev_load, ↓ev_ia, ↓ldK_q, ↓iaK_l, ↓orH_T, isD_d, ↓fnK_f, ↓callKQ_H, ↓allT_nil, ↓allT_cons, ↓td_d, ↓ret_1, ↓h_nil, ↓h_cons, ↓ldH_n, ↓ldH_g, ↓q_call, ↓q_move, ↓q_assign, ↓q_pick, ↓q_load, ↓q_ia, ↓il_move, ↓il_assign, ↓il_pick, ↓il_load, ↓il_ia, ↓il_call, ↓st_tm, ↓cells_c, ↓hd_cons, ↓ty3, ↓sl28, List.getD_cons_zero, List.getD_cons_succ, List.set_cons_zero, List.set_cons_succ, List.append_nil, List.length_cons, List.length_nil, List.all_cons, List.all_nil, Bool.and_self, Bool.true_or, Nat.reduceAdd, Nat.reduceSub, Nat.reduceMul, Nat.zero_add, Int.toNat_natCast, evK_go, reduceIte, Nat.reduceEqDiff, Nat.reduceLT, and_self, Int.zero_add, Int.natCast_nonneg]
      · have he : ¬ part m L x = part m L y := fun e => h2 (hiff.1 e).2
        simp (implicitDefEqProofs := false) (dsimp := false) only [hx, hy, hP, hW, hxy, liD, mapP_get, hasR_call, hl62, h1, h2, nD, hPx, hPy, he, ↓bo_eql, ↓cdK_true, ↓cdK_false, ↓gdK_t, ↓gdK_f, ↓gval_mk, ↓gvL_zero, ↓gvL_succ, ↓atK_H, ↓atH_map, ↓aw_seq, ↓aw_draw, ↓Qseq_n, ↓ops_nil, ↓ops_cons, ↓ops_guard, ↓eval_tmp, ↓eval_func, ↓put_some, ↓bK_b, ↓iK_i, ↓ev_move, ↓ev_load, ↓ev_bin, ↓ev_ia, ↓binE_i, ↓bi_eql, ↓ldK_q, ↓iaK_l, ↓op_move, ↓op_assign, ↓op_pick, ↓op_load, ↓op_ia, ↓op_call, isD_d, ↓fnK_f, ↓call_H, ↓callK_H, ↓allT_nil, ↓allT_cons, ↓td_d, ↓draw_H, ↓h_cons, ↓ldH_n, ↓ldH_g, ↓q_move, ↓q_load, ↓q_bin, ↓q_ia, ↓il_move, ↓il_load, ↓il_bin, ↓il_ia, ↓st_tm, ↓cells_c, ↓cells_l, ↓hd_cons, ↓ty3, ↓ty28, ↓sl28, ↓sl44, List.getD_cons_zero, List.getD_cons_succ, List.set_cons_zero, List.set_cons_succ, List.append_nil, List.length_cons, List.length_nil, List.length_map, List.all_cons, List.all_nil, Bool.true_and, Bool.and_self, Bool.true_or, Nat.reduceAdd, Nat.reduceSub, Nat.reduceMul, Nat.zero_add, Int.toNat_natCast, evK_go, reduceIte, decide_true, decide_false, Nat.reduceEqDiff, Nat.reduceLT, and_self, true_and, Int.zero_add, Int.natCast_nonneg, Int.natCast_inj]
        repeat refine OrH.l ?_
        refine ⟨DrawH.of follows_mixed (by kernel_rfl), ?_⟩
        simp (implicitDefEqProofs := false) (dsimp := false) only [beq_self_eq_true, hx, hP, nD, hPx, in2_callQ, hin, ↓cdK_true, ↓gdK_t, ↓gval_mk, ↓gvL_zero, ↓gvL_succ, ↓atK_H, ↓atH_map, ↓aw_ret, ↓Qseq_n, ↓Qret_r, ↓eval_tmp, ↓eval_int, ↓eval_func, ↓put_some, ↓bK_b, ↓iK_i, ↓ev_move, ↓ev_assign, ↓ev_pick, ↓ev_load, ↓ev_ia, ↓ldK_q, ↓iaK_l, ↓orH_T, isD_d, ↓fnK_f, ↓callKQ_H, ↓allT_nil, ↓allT_cons, ↓td_d, ↓ret_1, ↓h_nil, ↓h_cons, ↓ldH_n, ↓ldH_g, ↓q_call, ↓q_move, ↓q_assign, ↓q_pick, ↓q_load, ↓q_ia, ↓il_move, ↓il_assign, ↓il_pick, ↓il_load, ↓il_ia, ↓il_call, ↓st_tm, ↓cells_c, ↓hd_cons, ↓ty3, ↓sl28, List.getD_cons_zero, List.getD_cons_succ, List.set_cons_zero, List.set_cons_succ, List.append_nil, List.length_cons, List.length_nil, List.all_cons, List.all_nil, Bool.and_self, Bool.true_or, Nat.reduceAdd, Nat.reduceSub, Nat.reduceMul, Nat.zero_add, Int.toNat_natCast, evK_go, reduceIte, Nat.reduceEqDiff, Nat.reduceLT, and_self, Int.zero_add, Int.natCast_nonneg]
    · have he : ¬ part m L x = part m L y := fun e => h1 (hiff.1 e).1
      simp (implicitDefEqProofs := false) (dsimp := false) only [hx, hy, hP, hW, hxy, liD, mapP_get, hasR_call, hl62, h1, nD, hPx, hPy, he, ↓bo_eql, ↓cdK_false, ↓gdK_t, ↓gdK_f, ↓gval_mk, ↓gvL_zero, ↓gvL_succ, ↓atK_H, ↓atH_map, ↓aw_seq, ↓aw_draw, ↓Qseq_n, ↓ops_nil, ↓ops_cons, ↓ops_guard, ↓eval_tmp, ↓eval_bool, ↓eval_func, ↓put_some, ↓bK_b, ↓iK_i, ↓ev_move, ↓ev_load, ↓ev_bin, ↓ev_ia, ↓binE_i, ↓bi_eql, ↓ldK_q, ↓iaK_l, ↓op_move, ↓op_assign, ↓op_pick, ↓op_load, ↓op_ia, ↓op_call, isD_d, ↓fnK_f, ↓call_H, ↓callK_H, ↓allT_nil, ↓allT_cons, ↓td_d, ↓draw_H, ↓h_cons, ↓ldH_n, ↓ldH_g, ↓q_move, ↓q_load, ↓q_bin, ↓q_ia, ↓il_move, ↓il_load, ↓il_bin, ↓il_ia, ↓st_tm, ↓cells_c, ↓cells_l, ↓hd_cons, ↓ty3, ↓ty28, ↓sl28, ↓sl44, List.getD_cons_zero, List.getD_cons_succ, List.set_cons_zero, List.set_cons_succ, List.append_nil, List.length_cons, List.length_nil, List.length_map, List.all_cons, List.all_nil, Bool.true_and, Bool.and_self, Bool.true_or, Nat.reduceAdd, Nat.reduceSub, Nat.reduceMul, Nat.zero_add, Int.toNat_natCast, evK_go, reduceIte, decide_false, Nat.reduceEqDiff, Nat.reduceLT, and_self, true_and, Int.zero_add, Int.natCast_nonneg, Int.natCast_inj]
      repeat refine OrH.l ?_
      refine ⟨DrawH.of follows_mixed (by kernel_rfl), ?_⟩
      simp (implicitDefEqProofs := false) (dsimp := false) only [beq_self_eq_true, hx, hP, nD, hPx, in2_callQ, hin, ↓cdK_true, ↓gdK_t, ↓gval_mk, ↓gvL_zero, ↓gvL_succ, ↓atK_H, ↓atH_map, ↓aw_ret, ↓Qseq_n, ↓Qret_r, ↓eval_tmp, ↓eval_int, ↓eval_func, ↓put_some, ↓bK_b, ↓iK_i, ↓ev_move, ↓ev_assign, ↓ev_pick, ↓ev_load, ↓ev_ia, ↓ldK_q, ↓iaK_l, ↓orH_T, isD_d, ↓fnK_f, ↓callKQ_H, ↓allT_nil, ↓allT_cons, ↓td_d, ↓ret_1, ↓h_nil, ↓h_cons, ↓ldH_n, ↓ldH_g, ↓q_call, ↓q_move, ↓q_assign, ↓q_pick, ↓q_load, ↓q_ia, ↓il_move, ↓il_assign, ↓il_pick, ↓il_load, ↓il_ia, ↓il_call, ↓st_tm, ↓cells_c, ↓hd_cons, ↓ty3, ↓sl28, List.getD_cons_zero, List.getD_cons_succ, List.set_cons_zero, List.set_cons_succ, List.append_nil, List.length_cons, List.length_nil, List.all_cons, List.all_nil, Bool.and_self, Bool.true_or, Nat.reduceAdd, Nat.reduceSub, Nat.reduceMul, Nat.zero_add, Int.toNat_natCast, evK_go, reduceIte, Nat.reduceEqDiff, Nat.reduceLT, and_self, Int.zero_add, Int.natCast_nonneg]
end Go.Proofs

namespace Go.Proofs
open Go.Aw
set_option linter.unusedSimpArgs false
set_option maxRecDepth 10000
/-- All but one. -/
def butK {α : Type} [Inhabited α] (l : List α) (k : Int) (i : Nat) : List α := ((List.range i).filter fun j : Nat => !decide ((j : Int) = k)).map fun j => l.getD j default
def butL {α : Type} [Inhabited α] (l : List α) (k : Int) : List α := butK l k l.length
theorem butK_succ {α : Type} [Inhabited α] (l : List α) (k : Int) (i : Nat) : butK l k (i + 1) = if (i : Int) = k then butK l k i else butK l k i ++ [l.getD i default] := by
  unfold butK
  rw [List.range_succ, List.filter_append, List.map_append]
  by_cases h : (i : Int) = k <;> simp [h]
theorem butK_len {α : Type} [Inhabited α] (l : List α) (k : Int) (i : Nat) : (butK l k i).length ≤ i := by
  unfold butK
  rw [List.length_map]
  exact Nat.le_trans (List.length_filter_le _ _) (by simp)
theorem but_mem {α : Type} [Inhabited α] {l : List α} {k : Int} {x : α} (h : x ∈ butL l k) : x ∈ l := by
  obtain ⟨j, hj, rfl⟩ := List.mem_map.1 h
  exact getD_mem (by simpa using (List.mem_filter.1 hj).1)
theorem but_map {α β : Type} [Inhabited α] [Inhabited β] (f : α → β) (l : List α) (k : Int) : butL (l.map f) k = (butL l k).map f := by
  unfold butL butK
  rw [List.length_map, List.map_map]
  refine List.map_congr_left fun j hj => ?_
  have : j < l.length := by simpa using (List.mem_filter.1 hj).1
  simp [List.getD_eq_getElem?_getD, this]
theorem but_erase {α : Type} [Inhabited α] (l : List α) (k : Nat) (hk : k < l.length) : butL l (k : Int) = l.eraseIdx k := by
  have key : ∀ i, i ≤ l.length → butK l (k : Int) i = if k < i then (l.take i).eraseIdx k else l.take i := by
    intro i
    induction i with
    | zero => intro _; simp [butK]
    | succ i ih =>
      intro hi
      rw [butK_succ, ih (by omega)]
      rcases Nat.lt_trichotomy i k with h | h | h
      · rw [if_neg (by omega), if_neg (by omega), if_neg (by omega), take_succ_getD (by omega)]
      · subst h
        rw [if_pos rfl, if_neg (by omega), if_pos (by omega), take_succ_getD (by omega), List.eraseIdx_append_of_length_le (by simp; omega)]
        simp [show min i l.length = i by omega]
      · rw [if_neg (by omega), if_pos h, if_pos (by omega), take_succ_getD (by omega), List.eraseIdx_append_of_lt_length (by simp; omega)]
  have := key l.length (Nat.le_refl _)
  rw [if_pos hk, List.take_length] at this
  exact this
theorem but_spec (l : List (Int × Int)) (k : Int) (hpre : l.length < 2 ^ 43) : FnR Try.prog 41 [.l (l.map lnD), I .i64 k] 2 ((butL l k).map lnD) := by
  refine FnR.go Try.func41 rfl rfl Try.results41 Try.ntmps41 ?_
  simp (implicitDefEqProofs := false) (dsimp := false) only [↓aw_seq, ↓aw_block, ↓aw_loop, ↓aw_reg, ↓Qseq_n, ↓ops_nil, ↓ops_cons, ↓eval_int, ↓eval_nil, ↓put_some, ↓op_assign, List.set_cons_zero, List.set_cons_succ, List.cons_append, List.nil_append, List.map_cons, List.map_nil, List.length_cons, List.length_nil, Nat.reduceAdd, Nat.reduceSub, Nat.reduceMul, Nat.zero_add, List.replicate, evK_go, reduceIte, Nat.reduceEqDiff, Nat.reduceLT, Int.zero_add]
  refine loopW (fun i : Nat => { tm := slots 24 [(0, .d (.l (l.map lnD))), (1, .d (I .i64 k)), (5, .o 0 0 (butK l k i).length), (6, .d (I .i64 i))], bx := [], rw := [some ⟨2, (butK l k i).map lnD⟩] })
    (fun i => i ≤ l.length) (fun i => l.length - i) 0 (by simp) ?_ ?_
  · refine Wkn.of [] [none] ?_
    simp (implicitDefEqProofs := false) (dsimp := false) only [butK, List.range_zero, List.filter_nil, ↓row_xs, List.set_cons_zero, List.set_cons_succ, List.map_nil, List.length_nil, Bool.and_self, Nat.reduceAdd, Nat.reduceSub, Nat.reduceMul, List.replicate, evK_go, reduceIte, Nat.reduceEqDiff, Nat.reduceLT, and_self, List.foldl_cons, List.foldl_nil, Int.cast_ofNat_Int, slots, wkL_nil, wkL_cons, wkB_nil, wkR_nil, wkR_new, wkV_j, wkV_d, nlK_nl, wkV_o, frz_d, oK_zn, reduceCtorEq]
  · intro i hi
    simp (implicitDefEqProofs := false) (dsimp := false) only [slots, ↓aw_cond, ↓aw_seq, ↓aw_reg, ↓Qseq_n, ↓ops_nil, ↓ops_cons, ↓eval_tmp, ↓put_some, ↓bK_b, ↓lenK_l, ↓binE_i, ↓bi_lss, ↓op_move, ↓op_bin, ↓op_len, ↓sl22, List.getD_cons_zero, List.getD_cons_succ, List.set_cons_zero, List.set_cons_succ, List.length_map, Nat.reduceAdd, Nat.reduceSub, Nat.reduceMul, List.replicate, evK_go, reduceIte, Nat.reduceEqDiff, Nat.reduceLT, List.foldl_cons, List.foldl_nil, Int.ofNat_lt]
    refine cdK_dec (fun h => ?_) (fun h => ?_)
    · have hlen := butK_len l k i
      simp (implicitDefEqProofs := false) (dsimp := false) only [↓cdK_not, ↓aw_cond, ↓aw_seq, ↓aw_block, ↓aw_skip, ↓aw_reg, ↓Qseq_n, ↓ops_nil, ↓ops_cons, ↓eval_tmp, ↓put_some, ↓bK_b, ↓binE_i, ↓bi_neq, ↓op_move, ↓op_bin, List.getD_cons_zero, List.getD_cons_succ, List.set_cons_zero, List.set_cons_succ, Nat.reduceAdd, Nat.reduceSub, Nat.reduceMul, evK_go, reduceIte, Nat.reduceEqDiff, Nat.reduceLT]
      refine cdK_dec (fun hb => ?_) (fun hb => ?_)
      · simp (implicitDefEqProofs := false) (dsimp := false) only [↓aw_skip, ↓aw_reg, ↓Qseq_n, ↓Qblk_n, ↓ops_nil, ↓ops_cons, ↓eval_tmp, ↓eval_int, ↓put_some, ↓binE_i, ↓bi_add, ↓in_i64, ↓op_move, ↓op_assign, ↓op_bin, List.getD_cons_zero, List.getD_cons_succ, List.set_cons_zero, List.set_cons_succ, Nat.reduceAdd, Nat.reduceSub, Nat.reduceMul, evK_go, reduceIte, Nat.reduceEqDiff, Nat.reduceLT]
        refine ⟨by omega, i + 1, by omega, by omega, ?_⟩
        refine Wkn.of [] [some 0] ?_
        simp (implicitDefEqProofs := false) (dsimp := false) only [butK_succ, hb, List.getD_cons_zero, List.set_cons_zero, List.set_cons_succ, Bool.and_self, Nat.reduceAdd, Nat.reduceSub, Nat.reduceMul, List.replicate, evK_go, reduceIte, decide_true, Bool.not_true, Nat.reduceEqDiff, Nat.reduceLT, and_self, List.foldl_cons, List.foldl_nil, Int.cast_ofNat_Int, Int.natCast_add, slots, wkL_nil, wkL_cons, wkB_nil, wkR_nil, wkR_some, wkV_j, wkV_d, wkV_o, frz_d, oK_zs, reduceCtorEq]
      · simp (implicitDefEqProofs := false) (dsimp := false) only [h, lnD_cells, ↓optK_some, ↓rwK_mk_, ↓atK_H, ↓atH_map, ↓aw_reg, ↓Qseq_n, ↓Qblk_n, ↓ops_nil, ↓ops_cons, ↓eval_tmp, ↓eval_int, ↓put_some, ↓iK_i, ↓dK_d, ↓binE_i, ↓bi_add, ↓in_i64, ↓ldK_q, ↓iaK_l, ↓op_move, ↓op_assign, ↓op_load, ↓op_bin, ↓op_ia, ↓op_append, ↓allD_nil, ↓allD_cons, ↓app_mk, ↓row_sz, ↓row_xs, kill_d, kill_j, kill_o, ↓cells_s, ↓one_i, ↓ap_, ↓ap_o, ↓src_l, ↓bs_, ↓op_bs, ↓bsL_f, ↓stored_mk, ↓sl_nil, ↓sl_cons, ↓sT_move, ↓sT_assign, ↓sT_load, ↓sT_ia, ↓sT_bs, ↓sT_call, ↓vsz_agg, ↓inO_1, ↓fm_nil, ↓fm_cons, ↓sl22, ↓ty35, ↓zb35, List.getD_cons_zero, List.getD_cons_succ, List.set_cons_zero, List.set_cons_succ, List.map_cons, List.map_nil, List.length_cons, List.length_nil, List.length_map, List.all_cons, List.all_nil, Bool.true_and, Bool.and_self, Bool.or_false, Nat.reduceAdd, Nat.reduceSub, Nat.reduceMul, Nat.zero_add, Int.toNat_natCast, evK_go, reduceIte, decide_true, Nat.reduceEqDiff, Nat.reduceLT, and_self, true_and, Int.zero_add, List.drop_zero, List.take_succ_cons, List.take_nil, Int.natCast_nonneg]
        refine ⟨by decide, ⟨rfl, by decide⟩, rfl, ⟨fun _ => trivial, by omega, by omega⟩, by omega, i + 1, by omega, by omega, ?_⟩
        refine Wkn.of [] [some 0] ?_
        simp (implicitDefEqProofs := false) (dsimp := false) only [butK_succ, hb, List.map_append, List.length_append, lnD, List.getD_cons_zero, List.set_cons_zero, List.set_cons_succ, List.map_cons, List.map_nil, List.length_cons, List.length_nil, Bool.and_self, Nat.reduceAdd, Nat.reduceSub, Nat.reduceMul, Nat.zero_add, List.replicate, evK_go, reduceIte, decide_false, Bool.not_false, Nat.reduceEqDiff, Nat.reduceLT, and_self, Int.zero_add, List.foldl_cons, List.foldl_nil, Int.cast_ofNat_Int, Int.natCast_add, slots, wkL_nil, wkL_cons, wkB_nil, wkR_nil, wkR_some, wkV_j, wkV_d, wkV_o, frz_d, oK_zs, reduceCtorEq]
    · obtain rfl : i = l.length := by omega
      simp (implicitDefEqProofs := false) (dsimp := false) only [↓optK_some, ↓rwK_mk_, ↓aw_seq, ↓aw_exit, ↓aw_ret, ↓aw_reg, ↓Qseq_n, ↓Qseq_x, ↓Qblk_x, ↓ops_nil, ↓ops_cons, ↓eval_tmp, ↓put_some, ↓op_move, ↓op_assign, ↓row_sz, ↓row_xs, ↓take_map, ↓Qrow_r, ↓rowK_o, List.getD_cons_zero, List.getD_cons_succ, List.set_cons_zero, List.set_cons_succ, Bool.true_and, Nat.reduceAdd, Nat.reduceSub, Nat.reduceMul, evK_go, reduceIte, decide_false, Nat.reduceEqDiff, Nat.reduceLT, true_and, Nat.lt_irrefl]
      rfl
theorem but_call (l : List (Int × Int)) (k : Int) (pure : Bool) (σ : St) (dst : Option Tmp) (K : St → Prop) : CallH Try.prog 41 [.l (l.map lnD), I .i64 k] pure σ dst (.mk : Hid K) = OrH ((l.length < 2 ^ 43) ∧ (pure || Res.flat (.row 2 ((butL l k).map lnD))) = true ∧ evK ((σ.addRow ⟨2, (butL l k).map lnD⟩).put dst (.o σ.rw.length 0 (List.length ((butL l k).map lnD)))) (.mk : Hid K)) (.mk : Hid (CallH Try.prog 41 [.l (l.map lnD), I .i64 k] pure σ dst (.mk : Hid K))) := CallH.eqR (fun h => but_spec l k h) pure σ dst K
theorem but_callD (l : List (Int × Int)) (k : Int) (pure : Bool) (σ : St) (dst : Option Tmp) (K : St → Prop) : CallH Try.prog 41 [.l (l.map lnD), I .i64 k] pure σ dst (.mk : Hid K) = OrH ((l.length < 2 ^ 43) ∧ (pure || D.flat (.l ((butL l k).map lnD))) = true ∧ evK (σ.put dst (.d (.l ((butL l k).map lnD)))) (.mk : Hid K)) (.mk : Hid (CallH Try.prog 41 [.l (l.map lnD), I .i64 k] pure σ dst (.mk : Hid K))) := CallH.eq (fun h => ((fun h => but_spec l k h) h).data) pure σ dst K
theorem but_callDQ (l : List (Int × Int)) (k : Int) (pure : Bool) (C : V → Prop) : CallQ Try.prog 41 [.l (l.map lnD), I .i64 k] pure (.mk : Hid C) = OrH ((l.length < 2 ^ 43) ∧ (pure || D.flat (.l ((butL l k).map lnD))) = true ∧ evK (V.d (.l ((butL l k).map lnD))) (.mk : Hid C)) (.mk : Hid (CallQ Try.prog 41 [.l (l.map lnD), I .i64 k] pure (.mk : Hid C))) := CallQ.eq (fun h => ((fun h => but_spec l k h) h).data) pure C
/-- The place of a number. -/
def place (l : List Int) (n : Int) : Int := if n ∈ l then (l.idxOf n : Nat) else -1
theorem place_at {l : List Int} {n : Int} {k : Nat} (h : k < l.length) (h0 : n ∉ l.take k) (e : l.getD k default = n) : place l n = k := by
  have hm : n ∈ l := by rw [← e]; exact getD_mem h
  unfold place
  rw [if_pos hm]
  have h1 : l = l.take k ++ n :: l.drop (k + 1) := by
    conv => lhs; rw [← List.take_append_drop k l]
    congr 1
    rw [List.drop_eq_getElem_cons h]
    congr 1
    rw [← e, List.getD_eq_getElem?_getD, List.getElem?_eq_getElem h]; rfl
  rw [h1, List.idxOf_append, if_neg h0]
  simp; omega
theorem place_spec (l : List Int) (n : Int) (hpre : l.length < 2 ^ 62) : FnD Try.prog 48 [.l (l.map (I .i64)), I .i64 n] (I .i64 (place l n)) := by
  refine FnD.go Try.func48 rfl rfl Try.results48 Try.ntmps48 ?_
  simp (implicitDefEqProofs := false) (dsimp := false) only [↓aw_seq, ↓aw_block, ↓aw_loop, ↓aw_reg, ↓Qseq_n, ↓ops_nil, ↓ops_cons, ↓eval_int, ↓put_some, ↓op_assign, List.set_cons_zero, List.set_cons_succ, List.cons_append, List.nil_append, List.map_cons, List.map_nil, List.length_cons, List.length_nil, Nat.reduceAdd, Nat.reduceSub, Nat.reduceMul, Nat.zero_add, List.replicate, evK_go, reduceIte, Nat.reduceEqDiff, Nat.reduceLT, Int.zero_add]
  refine loopW (fun k : Nat => { tm := slots 19 [(0, .d (.l (l.map (I .i64)))), (1, .d (I .i64 n)), (5, .d (I .i64 k))], bx := [], rw := [] })
    (fun k => k ≤ l.length ∧ n ∉ l.take k) (fun k => l.length - k) 0 ⟨by simp, by simp⟩ ?_ ?_
  · refine Wkn.of [] [] ?_
    simp (implicitDefEqProofs := false) (dsimp := false) only [List.set_cons_zero, List.set_cons_succ, Bool.and_self, Nat.reduceAdd, Nat.reduceSub, Nat.reduceMul, List.replicate, evK_go, reduceIte, Nat.reduceEqDiff, Nat.reduceLT, and_self, List.foldl_cons, List.foldl_nil, Int.cast_ofNat_Int, slots, wkL_nil, wkL_cons, wkB_nil, wkR_nil, wkV_j, wkV_d, frz_d, reduceCtorEq]
  · rintro k ⟨h1, h2⟩
    simp (implicitDefEqProofs := false) (dsimp := false) only [slots, ↓aw_cond, ↓aw_seq, ↓aw_reg, ↓Qseq_n, ↓ops_nil, ↓ops_cons, ↓eval_tmp, ↓put_some, ↓bK_b, ↓lenK_l, ↓binE_i, ↓bi_lss, ↓op_move, ↓op_bin, ↓op_len, ↓sl28, List.getD_cons_zero, List.getD_cons_succ, List.set_cons_zero, List.set_cons_succ, List.length_map, Nat.reduceAdd, Nat.reduceSub, Nat.reduceMul, List.replicate, evK_go, reduceIte, Nat.reduceEqDiff, Nat.reduceLT, List.foldl_cons, List.foldl_nil, Int.ofNat_lt]
    refine cdK_dec (fun h => ?_) (fun h => ?_)
    · simp (implicitDefEqProofs := false) (dsimp := false) only [h, ↓atK_H, ↓atH_map, ↓aw_cond, ↓aw_seq, ↓aw_block, ↓aw_skip, ↓aw_reg, ↓Qseq_n, ↓ops_nil, ↓ops_cons, ↓eval_tmp, ↓put_some, ↓bK_b, ↓iK_i, ↓binE_i, ↓bi_eql, ↓ldK_q, ↓iaK_l, ↓op_move, ↓op_load, ↓op_bin, ↓op_ia, ↓cells_c, ↓hd_cons, ↓ty3, ↓sl28, List.getD_cons_zero, List.getD_cons_succ, List.set_cons_zero, List.set_cons_succ, List.length_cons, List.length_nil, Bool.true_and, Nat.reduceAdd, Nat.reduceSub, Nat.reduceMul, Nat.zero_add, Int.toNat_natCast, evK_go, reduceIte, decide_true, Nat.reduceEqDiff, Nat.reduceLT, true_and, Int.zero_add, Int.natCast_nonneg]
      refine cdK_dec (fun hb => ?_) (fun hb => ?_)
      · have := place_at h h2 hb
        simp (implicitDefEqProofs := false) (dsimp := false) only [this, ↓aw_seq, ↓aw_ret, ↓aw_reg, ↓Qseq_n, ↓Qseq_r, ↓Qblk_r, ↓Qret_r, ↓ops_nil, ↓ops_cons, ↓eval_tmp, ↓put_some, ↓op_move, ↓op_assign, ↓td_d, ↓ret_1, List.getD_cons_zero, List.getD_cons_succ, List.set_cons_zero, List.set_cons_succ, Nat.reduceAdd, Nat.reduceSub, Nat.reduceMul, evK_go, reduceIte, Nat.reduceEqDiff, Nat.reduceLT]
      · simp (implicitDefEqProofs := false) (dsimp := false) only [↓aw_skip, ↓aw_reg, ↓Qseq_n, ↓Qblk_n, ↓ops_nil, ↓ops_cons, ↓eval_tmp, ↓eval_int, ↓put_some, ↓binE_i, ↓bi_add, ↓in_i64, ↓op_move, ↓op_assign, ↓op_bin, List.getD_cons_zero, List.getD_cons_succ, List.set_cons_zero, List.set_cons_succ, Nat.reduceAdd, Nat.reduceSub, Nat.reduceMul, evK_go, reduceIte, Nat.reduceEqDiff, Nat.reduceLT]
        refine ⟨by omega, k + 1, ⟨by omega, ?_⟩, by omega, ?_⟩
        · rw [take_succ_getD h, List.mem_append, List.mem_singleton]
          exact fun h' => h'.elim h2 (fun e => hb e.symm)
        · refine Wkn.of [] [] ?_
          simp (implicitDefEqProofs := false) (dsimp := false) only [List.set_cons_zero, List.set_cons_succ, Bool.and_self, Nat.reduceAdd, Nat.reduceSub, Nat.reduceMul, List.replicate, evK_go, reduceIte, Nat.reduceEqDiff, Nat.reduceLT, and_self, List.foldl_cons, List.foldl_nil, Int.cast_ofNat_Int, Int.natCast_add, slots, wkL_nil, wkL_cons, wkB_nil, wkR_nil, wkV_j, wkV_d, frz_d, reduceCtorEq]
    · obtain rfl : k = l.length := by omega
      rw [List.take_length] at h2
      have : place l n = -1 := if_neg h2
      simp (implicitDefEqProofs := false) (dsimp := false) only [this, ↓aw_seq, ↓aw_exit, ↓aw_ret, ↓aw_reg, ↓Qseq_n, ↓Qseq_x, ↓Qblk_x, ↓Qret_r, ↓ops_nil, ↓ops_cons, ↓eval_tmp, ↓eval_int, ↓put_some, ↓op_assign, ↓td_d, ↓ret_1, List.getD_cons_zero, List.getD_cons_succ, List.set_cons_zero, List.set_cons_succ, Nat.reduceAdd, Nat.reduceSub, Nat.reduceMul, evK_go, reduceIte, decide_false, Nat.reduceEqDiff, Nat.reduceLT, Nat.lt_irrefl]
theorem place_call (l : List Int) (n : Int) (pure : Bool) (σ : St) (dst : Option Tmp) (K : St → Prop) : CallH Try.prog 48 [.l (l.map (I .i64)), I .i64 n] pure σ dst (.mk : Hid K) = OrH ((l.length < 2 ^ 62) ∧ (pure || D.flat (I .i64 (place l n))) = true ∧ evK (σ.put dst (.d (I .i64 (place l n)))) (.mk : Hid K)) (.mk : Hid (CallH Try.prog 48 [.l (l.map (I .i64)), I .i64 n] pure σ dst (.mk : Hid K))) := CallH.eq (place_spec l n) pure σ dst K
theorem place_callQ (l : List Int) (n : Int) (pure : Bool) (C : V → Prop) : CallQ Try.prog 48 [.l (l.map (I .i64)), I .i64 n] pure (.mk : Hid C) = OrH ((l.length < 2 ^ 62) ∧ (pure || D.flat (I .i64 (place l n))) = true ∧ evK (V.d (I .i64 (place l n))) (.mk : Hid C)) (.mk : Hid (CallQ Try.prog 48 [.l (l.map (I .i64)), I .i64 n] pure (.mk : Hid C))) := CallQ.eq (place_spec l n) pure C
/-- How many are false. -/
def missN (l : List Bool) : Nat := l.countP fun b => !b
theorem miss_succ {l : List Bool} {k : Nat} (h : k < l.length) : missN (l.take (k + 1)) = missN (l.take k) + if l.getD k default then 0 else 1 := by
  rw [take_succ_getD h, missN, List.countP_append]
  cases l.getD k default <;> simp [missN]
theorem miss_le (l : List Bool) : missN l ≤ l.length := List.countP_le_length
theorem misses_spec (l : List Bool) (hpre : l.length < 2 ^ 62) : FnD Try.prog 34 [.l (l.map Bo)] (I .i64 (missN l : Nat)) := by
  refine FnD.go Try.func34 rfl rfl Try.results34 Try.ntmps34 ?_
  simp (implicitDefEqProofs := false) (dsimp := false) only [↓aw_seq, ↓aw_block, ↓aw_loop, ↓aw_reg, ↓Qseq_n, ↓ops_nil, ↓ops_cons, ↓eval_int, ↓put_some, ↓op_assign, List.set_cons_zero, List.set_cons_succ, List.cons_append, List.nil_append, List.map_cons, List.map_nil, List.length_cons, List.length_nil, Nat.reduceAdd, Nat.reduceSub, Nat.reduceMul, Nat.zero_add, List.replicate, evK_go, reduceIte, Nat.reduceEqDiff, Nat.reduceLT, Int.zero_add]
  refine loopW (fun k : Nat => { tm := slots 19 [(0, .d (.l (l.map Bo))), (3, .d (I .i64 (missN (l.take k) : Nat))), (4, .d (I .i64 k))], bx := [], rw := [] })
    (fun k => k ≤ l.length) (fun k => l.length - k) 0 (by simp) ?_ ?_
  · refine Wkn.of [] [] ?_
    simp (implicitDefEqProofs := false) (dsimp := false) only [missN, List.countP_nil, List.set_cons_zero, List.set_cons_succ, Bool.and_self, Nat.reduceAdd, Nat.reduceSub, Nat.reduceMul, List.replicate, evK_go, reduceIte, Nat.reduceEqDiff, Nat.reduceLT, and_self, List.take_zero, List.foldl_cons, List.foldl_nil, Int.cast_ofNat_Int, slots, wkL_nil, wkL_cons, wkB_nil, wkR_nil, wkV_j, wkV_d, frz_d, reduceCtorEq]
  · rintro k h1
    simp (implicitDefEqProofs := false) (dsimp := false) only [slots, ↓aw_cond, ↓aw_seq, ↓aw_reg, ↓Qseq_n, ↓ops_nil, ↓ops_cons, ↓eval_tmp, ↓put_some, ↓bK_b, ↓lenK_l, ↓binE_i, ↓bi_lss, ↓op_move, ↓op_bin, ↓op_len, ↓sl38, List.getD_cons_zero, List.getD_cons_succ, List.set_cons_zero, List.set_cons_succ, List.length_map, Nat.reduceAdd, Nat.reduceSub, Nat.reduceMul, List.replicate, evK_go, reduceIte, Nat.reduceEqDiff, Nat.reduceLT, List.foldl_cons, List.foldl_nil, Int.ofNat_lt]
    have hm := miss_le (l.take k)
    rw [List.length_take] at hm
    refine cdK_dec (fun h => ?_) (fun h => ?_)
    · simp (implicitDefEqProofs := false) (dsimp := false) only [h, ↓cdK_not, ↓atK_H, ↓atH_map, ↓aw_cond, ↓aw_seq, ↓aw_block, ↓aw_skip, ↓aw_reg, ↓Qseq_n, ↓ops_nil, ↓ops_cons, ↓eval_tmp, ↓put_some, ↓bK_b, ↓iK_i, ↓ldK_q, ↓iaK_l, ↓op_move, ↓op_load, ↓op_not, ↓op_ia, ↓cells_c, ↓hd_cons, ↓ty4, ↓sl38, List.getD_cons_zero, List.getD_cons_succ, List.set_cons_zero, List.set_cons_succ, List.length_cons, List.length_nil, Bool.true_and, Nat.reduceAdd, Nat.reduceSub, Nat.reduceMul, Nat.zero_add, Int.toNat_natCast, evK_go, reduceIte, decide_true, Nat.reduceEqDiff, Nat.reduceLT, true_and, Int.zero_add, Int.natCast_nonneg]
      refine cdK_split (fun hb => ?_) (fun hb => ?_)
      · simp (implicitDefEqProofs := false) (dsimp := false) only [↓aw_skip, ↓aw_reg, ↓Qseq_n, ↓Qblk_n, ↓ops_nil, ↓ops_cons, ↓eval_tmp, ↓eval_int, ↓put_some, ↓binE_i, ↓bi_add, ↓in_i64, ↓op_move, ↓op_assign, ↓op_bin, List.getD_cons_zero, List.getD_cons_succ, List.set_cons_zero, List.set_cons_succ, Nat.reduceAdd, Nat.reduceSub, Nat.reduceMul, evK_go, reduceIte, Nat.reduceEqDiff, Nat.reduceLT]
        refine ⟨by omega, k + 1, by omega, by omega, ?_⟩
        refine Wkn.of [] [] ?_
        simp (implicitDefEqProofs := false) (dsimp := false) only [miss_succ h, hb, List.set_cons_zero, List.set_cons_succ, Bool.and_self, Nat.reduceAdd, Nat.reduceSub, Nat.reduceMul, Nat.add_zero, List.replicate, evK_go, reduceIte, Bool.not_true, Nat.reduceEqDiff, Nat.reduceLT, and_self, List.foldl_cons, List.foldl_nil, Int.cast_ofNat_Int, Int.natCast_add, slots, wkL_nil, wkL_cons, wkB_nil, wkR_nil, wkV_j, wkV_d, frz_d, reduceCtorEq]
      · simp (implicitDefEqProofs := false) (dsimp := false) only [↓aw_reg, ↓Qseq_n, ↓Qblk_n, ↓ops_nil, ↓ops_cons, ↓eval_tmp, ↓eval_int, ↓put_some, ↓binE_i, ↓bi_add, ↓in_i64, ↓op_move, ↓op_assign, ↓op_bin, List.getD_cons_zero, List.getD_cons_succ, List.set_cons_zero, List.set_cons_succ, Nat.reduceAdd, Nat.reduceSub, Nat.reduceMul, evK_go, reduceIte, Nat.reduceEqDiff, Nat.reduceLT]
        refine ⟨by omega, by omega, k + 1, by omega, by omega, ?_⟩
        refine Wkn.of [] [] ?_
        simp (implicitDefEqProofs := false) (dsimp := false) only [miss_succ h, hb, Bool.false_eq_true, List.set_cons_zero, List.set_cons_succ, Bool.and_self, Nat.reduceAdd, Nat.reduceSub, Nat.reduceMul, List.replicate, evK_go, reduceIte, Bool.not_false, Nat.reduceEqDiff, Nat.reduceLT, and_self, List.foldl_cons, List.foldl_nil, Int.cast_ofNat_Int, Int.natCast_add, slots, wkL_nil, wkL_cons, wkB_nil, wkR_nil, wkV_j, wkV_d, frz_d, reduceCtorEq]
    · obtain rfl : k = l.length := by omega
      rw [List.take_length]
      simp (implicitDefEqProofs := false) (dsimp := false) only [↓aw_seq, ↓aw_exit, ↓aw_ret, ↓aw_reg, ↓Qseq_n, ↓Qseq_x, ↓Qblk_x, ↓Qret_r, ↓ops_nil, ↓ops_cons, ↓eval_tmp, ↓put_some, ↓op_move, ↓op_assign, ↓td_d, ↓ret_1, List.getD_cons_zero, List.getD_cons_succ, List.set_cons_zero, List.set_cons_succ, Nat.reduceAdd, Nat.reduceSub, Nat.reduceMul, evK_go, reduceIte, decide_false, Nat.reduceEqDiff, Nat.reduceLT, Nat.lt_irrefl]
theorem misses_call (l : List Bool) (pure : Bool) (σ : St) (dst : Option Tmp) (K : St → Prop) : CallH Try.prog 34 [.l (l.map Bo)] pure σ dst (.mk : Hid K) = OrH ((l.length < 2 ^ 62) ∧ (pure || D.flat (I .i64 (missN l : Nat))) = true ∧ evK (σ.put dst (.d (I .i64 (missN l : Nat)))) (.mk : Hid K)) (.mk : Hid (CallH Try.prog 34 [.l (l.map Bo)] pure σ dst (.mk : Hid K))) := CallH.eq (misses_spec l) pure σ dst K
theorem misses_callQ (l : List Bool) (pure : Bool) (C : V → Prop) : CallQ Try.prog 34 [.l (l.map Bo)] pure (.mk : Hid C) = OrH ((l.length < 2 ^ 62) ∧ (pure || D.flat (I .i64 (missN l : Nat))) = true ∧ evK (V.d (I .i64 (missN l : Nat))) (.mk : Hid C)) (.mk : Hid (CallQ Try.prog 34 [.l (l.map Bo)] pure (.mk : Hid C))) := CallQ.eq (misses_spec l) pure C
theorem lines_spec (n : Int) (l : List (Int × Int)) (hpre : l.length < 2 ^ 62) : FnD Try.prog 38 [I .i64 n, .l (l.map lnD)] (I .i64 (chk n l)) := by
  refine FnD.go Try.func38 rfl rfl Try.results38 Try.ntmps38 ?_
  simp (implicitDefEqProofs := false) (dsimp := false) only [↓aw_seq, ↓aw_reg, ↓Qseq_n, ↓ops_nil, ↓ops_cons, ↓eval_tmp, ↓eval_int, ↓eval_func, ↓put_some, ↓op_move, ↓op_assign, ↓op_call, isD_d, ↓fnK_f, ↓call_H, ↓callK_H, ↓allT_nil, ↓allT_cons, ↓td_d, List.getD_cons_zero, List.getD_cons_succ, List.set_cons_zero, List.set_cons_succ, List.cons_append, List.nil_append, List.append_nil, List.map_cons, List.map_nil, List.length_cons, List.length_nil, List.all_cons, List.all_nil, Bool.and_self, Nat.reduceAdd, Nat.reduceSub, Nat.reduceMul, Nat.zero_add, List.replicate, evK_go, reduceIte, Nat.reduceEqDiff, Nat.reduceLT, and_self, Int.zero_add]
  simp (implicitDefEqProofs := false) (dsimp := false) only [in1_call, ↓cdK_not, ↓aw_cond, ↓Qseq_n, ↓ops_nil, ↓ops_cons, ↓eval_tmp, ↓put_some, ↓bK_b, ↓op_not, List.getD_cons_zero, List.getD_cons_succ, List.set_cons_zero, List.set_cons_succ, Bool.true_and, Bool.true_or, Nat.reduceAdd, Nat.reduceSub, Nat.reduceMul, evK_go, reduceIte, Nat.reduceEqDiff, Nat.reduceLT, true_and]
  refine OrH.l (OrH.l (cdK_split (fun hn => ?_) (fun hn => ?_)))
  rotate_left
  · simp (implicitDefEqProofs := false) (dsimp := false) only [chk, hn, ↓aw_seq, ↓aw_ret, ↓aw_reg, ↓Qseq_n, ↓Qseq_r, ↓Qret_r, ↓ops_nil, ↓ops_cons, ↓eval_tmp, ↓eval_int, ↓put_some, ↓op_assign, ↓td_d, ↓ret_1, List.getD_cons_zero, List.getD_cons_succ, List.set_cons_zero, List.set_cons_succ, Nat.reduceAdd, Nat.reduceSub, Nat.reduceMul, evK_go, reduceIte, Bool.not_false, Nat.reduceEqDiff, Nat.reduceLT]
  simp (implicitDefEqProofs := false) (dsimp := false) only [↓aw_cond, ↓aw_seq, ↓aw_skip, ↓aw_reg, ↓Qseq_n, ↓ops_nil, ↓ops_cons, ↓eval_tmp, ↓eval_int, ↓put_some, ↓bK_b, ↓lenK_l, ↓binE_i, ↓bi_gtr, ↓op_move, ↓op_bin, ↓op_len, ↓sl22, List.getD_cons_zero, List.getD_cons_succ, List.set_cons_zero, List.set_cons_succ, List.length_map, Nat.reduceAdd, Nat.reduceSub, Nat.reduceMul, evK_go, reduceIte, Nat.reduceEqDiff, Nat.reduceLT]
  refine cdK_dec (fun h24 => ?_) (fun h24 => ?_)
  · have h24' : 24 < l.length := by omega
    simp (implicitDefEqProofs := false) (dsimp := false) only [chk, hn, h24', Bool.true_eq_false, ↓aw_seq, ↓aw_ret, ↓aw_reg, ↓Qseq_n, ↓Qseq_r, ↓Qret_r, ↓ops_nil, ↓ops_cons, ↓eval_tmp, ↓eval_int, ↓put_some, ↓op_assign, ↓td_d, ↓ret_1, List.getD_cons_zero, List.getD_cons_succ, List.set_cons_zero, List.set_cons_succ, Nat.reduceAdd, Nat.reduceSub, Nat.reduceMul, evK_go, reduceIte, Bool.not_true, Nat.reduceEqDiff, Nat.reduceLT]
  have h24' : ¬ 24 < l.length := by omega
  have hc : chk n l = firstErr (lineErr n) l := by simp [chk, hn, h24']
  rw [hc]
  simp (implicitDefEqProofs := false) (dsimp := false) only [↓aw_seq, ↓aw_block, ↓aw_skip, ↓aw_loop, ↓aw_reg, ↓Qseq_n, ↓ops_nil, ↓ops_cons, ↓eval_int, ↓put_some, ↓op_assign, List.set_cons_zero, List.set_cons_succ, Nat.reduceAdd, Nat.reduceSub, Nat.reduceMul, evK_go, reduceIte, Nat.reduceEqDiff, Nat.reduceLT]
  have hn' : 1 ≤ n ∧ n ≤ 8 := by simpa [inB] using hn
  refine loopW (fun k : Nat => { tm := slots 49 [(0, .d (I .i64 n)), (1, .d (.l (l.map lnD))), (5, .d (I .i64 k))], bx := [], rw := [] })
    (fun k => k ≤ l.length ∧ firstErr (lineErr n) (l.take k) = 0) (fun k => l.length - k) 0 ⟨by simp, by simp [firstErr]⟩ ?_ ?_
  · refine Wkn.of [] [] ?_
    simp (implicitDefEqProofs := false) (dsimp := false) only [List.set_cons_zero, List.set_cons_succ, Bool.and_self, Nat.reduceAdd, Nat.reduceSub, Nat.reduceMul, List.replicate, evK_go, reduceIte, Nat.reduceEqDiff, Nat.reduceLT, and_self, List.foldl_cons, List.foldl_nil, Int.cast_ofNat_Int, slots, wkL_nil, wkL_cons, wkB_nil, wkR_nil, wkV_j, wkV_d, frz_d, reduceCtorEq]
  · rintro k ⟨h1, h2⟩
    simp (implicitDefEqProofs := false) (dsimp := false) only [slots, ↓aw_cond, ↓aw_seq, ↓aw_reg, ↓Qseq_n, ↓ops_nil, ↓ops_cons, ↓eval_tmp, ↓put_some, ↓bK_b, ↓lenK_l, ↓binE_i, ↓bi_lss, ↓op_move, ↓op_bin, ↓op_len, ↓sl22, List.getD_cons_zero, List.getD_cons_succ, List.set_cons_zero, List.set_cons_succ, List.length_map, Nat.reduceAdd, Nat.reduceSub, Nat.reduceMul, List.replicate, evK_go, reduceIte, Nat.reduceEqDiff, Nat.reduceLT, List.foldl_cons, List.foldl_nil, Int.ofNat_lt]
    refine cdK_dec (fun h => ?_) (fun h => ?_)
    · obtain ⟨g1, g2⟩ := firstErr_take h h2
      simp (implicitDefEqProofs := false) (dsimp := false) only [h, lnD, in1_call, ↓cdK_not, ↓gdK_f, ↓gval_mk, ↓gvL_zero, ↓gvL_succ, ↓atK_H, ↓atH_map, ↓aw_seq, ↓aw_block, ↓aw_skip, ↓aw_reg, ↓Qseq_n, ↓ops_cons, ↓ops_guard, ↓eval_tmp, ↓eval_int, ↓eval_func, ↓put_some, ↓bK_b, ↓iK_i, ↓binE_i, ↓bi_sub, ↓in_i64, ↓ldK_q, ↓faK_q, ↓iaK_l, ↓op_move, ↓op_load, ↓op_bin, ↓op_not, ↓op_fa, ↓op_ia, ↓op_call, isD_d, ↓fnK_f, ↓call_H, ↓callK_H, ↓allT_nil, ↓allT_cons, ↓td_d, ↓st_tm, ↓cells_s, ↓hd_cons, ↓ty3, ↓sl22, ↓ty35, ↓fd35_0, List.getD_cons_zero, List.getD_cons_succ, List.set_cons_zero, List.set_cons_succ, List.append_nil, List.length_cons, List.length_nil, List.all_cons, List.all_nil, Bool.true_and, Bool.and_self, Bool.true_or, Nat.reduceAdd, Nat.reduceSub, Nat.reduceMul, Nat.zero_add, Int.toNat_natCast, evK_go, reduceIte, decide_true, Nat.reduceEqDiff, Nat.reduceLT, and_self, true_and, Int.zero_add, List.drop_zero, Int.natCast_nonneg]
      refine ⟨by omega, OrH.l (OrH.l (cdK_split (fun ha => ?_) (fun ha => ?_)))⟩
      rotate_left
      · have e : lineErr n (l.getD k default) = 1 := by simp (implicitDefEqProofs := false) (dsimp := false) only [lineErr, ha, Bool.false_and, reduceIte]
        rw [g2 (by rw [e]; decide), e]
        simp (implicitDefEqProofs := false) (dsimp := false) only [ha, ↓cdK_true, ↓gdK_f, ↓gval_mk, ↓gvL_zero, ↓gvL_succ, ↓aw_cond, ↓aw_seq, ↓aw_ret, ↓aw_reg, ↓Qseq_n, ↓Qseq_r, ↓Qblk_r, ↓Qret_r, ↓ops_nil, ↓ops_cons, ↓ops_guard, ↓eval_tmp, ↓eval_int, ↓eval_bool, ↓put_some, ↓bK_b, ↓op_assign, ↓op_pick, ↓td_d, ↓ret_1, ↓st_tm, List.getD_cons_zero, List.getD_cons_succ, List.set_cons_zero, List.set_cons_succ, Nat.reduceAdd, Nat.reduceSub, Nat.reduceMul, evK_go, reduceIte, Bool.not_false, Nat.reduceEqDiff, Nat.reduceLT]
      simp (implicitDefEqProofs := false) (dsimp := false) only [ha, h, lnD, in1_call, ↓cdK_false, ↓cdK_not, ↓gdK_f, ↓gval_mk, ↓gvL_zero, ↓gvL_succ, ↓atK_H, ↓atH_map, ↓aw_cond, ↓Qseq_n, ↓ops_nil, ↓ops_cons, ↓ops_guard, ↓eval_tmp, ↓eval_int, ↓eval_func, ↓put_some, ↓bK_b, ↓iK_i, ↓binE_i, ↓bi_sub, ↓in_i64, ↓ldK_q, ↓faK_q, ↓iaK_l, ↓op_move, ↓op_pick, ↓op_load, ↓op_bin, ↓op_not, ↓op_fa, ↓op_ia, ↓op_call, isD_d, ↓fnK_f, ↓call_H, ↓callK_H, ↓allT_nil, ↓allT_cons, ↓td_d, ↓st_tm, ↓cells_s, ↓hd_cons, ↓ty3, ↓sl22, ↓ty35, ↓fd35_1, List.getD_cons_zero, List.getD_cons_succ, List.set_cons_zero, List.set_cons_succ, List.append_nil, List.length_cons, List.length_nil, List.all_cons, List.all_nil, Bool.true_and, Bool.and_self, Bool.true_or, Nat.reduceAdd, Nat.reduceSub, Nat.reduceMul, Nat.zero_add, Int.toNat_natCast, evK_go, reduceIte, Bool.not_true, Nat.reduceEqDiff, Nat.reduceLT, and_self, true_and, Int.zero_add, List.drop_zero, List.drop_succ_cons, Int.natCast_nonneg]
      refine ⟨by omega, OrH.l (OrH.l (cdK_split (fun hb => ?_) (fun hb => ?_)))⟩
      · simp (implicitDefEqProofs := false) (dsimp := false) only [hb, h, lnD, ↓atK_H, ↓atH_map, ↓aw_cond, ↓aw_seq, ↓aw_skip, ↓aw_draw, ↓Qseq_n, ↓eval_tmp, ↓put_some, ↓bK_b, ↓iK_i, ↓ev_move, ↓ev_load, ↓ev_bin, ↓ev_fa, ↓ev_ia, ↓binE_i, ↓bi_eql, ↓ldK_q, ↓faK_q, ↓iaK_l, ↓draw_H, ↓h_nil, ↓h_cons, ↓ldH_n, ↓q_move, ↓q_load, ↓q_bin, ↓q_fa, ↓q_ia, ↓il_move, ↓il_load, ↓il_bin, ↓il_fa, ↓il_ia, ↓cells_s, ↓hd_cons, ↓ty3, ↓sl22, ↓ty35, ↓fd35_0, ↓fd35_1, List.getD_cons_zero, List.getD_cons_succ, List.set_cons_zero, List.set_cons_succ, List.length_cons, List.length_nil, Bool.true_and, Nat.reduceAdd, Nat.reduceSub, Nat.reduceMul, Nat.zero_add, Int.toNat_natCast, evK_go, reduceIte, Bool.not_true, Nat.reduceEqDiff, Nat.reduceLT, true_and, Int.zero_add, List.drop_zero, List.drop_succ_cons, Int.natCast_nonneg]
        refine OrH.l ⟨DrawH.of follows_mixed (by kernel_rfl), cdK_dec (fun he => ?_) (fun he => ?_)⟩
        · have e : lineErr n (l.getD k default) = 3 := by unfold lineErr; rw [ha, hb, if_neg (by decide), if_pos he]
          rw [g2 (by rw [e]; decide), e]
          simp (implicitDefEqProofs := false) (dsimp := false) only [↓aw_seq, ↓aw_ret, ↓aw_reg, ↓Qseq_n, ↓Qseq_r, ↓Qblk_r, ↓Qret_r, ↓ops_nil, ↓ops_cons, ↓eval_tmp, ↓eval_int, ↓put_some, ↓op_assign, ↓td_d, ↓ret_1, List.getD_cons_zero, List.getD_cons_succ, List.set_cons_zero, List.set_cons_succ, Nat.reduceAdd, Nat.reduceSub, Nat.reduceMul, evK_go, reduceIte, Nat.reduceEqDiff, Nat.reduceLT]
        · have e : lineErr n (l.getD k default) = 0 := by simp (implicitDefEqProofs := false) (dsimp := false) only [lineErr, ha, hb, he, Bool.and_self, reduceIte, Bool.true_eq_false]
          simp (implicitDefEqProofs := false) (dsimp := false) only [↓aw_skip, ↓aw_reg, ↓Qseq_n, ↓Qblk_n, ↓ops_nil, ↓ops_cons, ↓eval_tmp, ↓eval_int, ↓put_some, ↓binE_i, ↓bi_add, ↓in_i64, ↓op_move, ↓op_assign, ↓op_bin, List.getD_cons_zero, List.getD_cons_succ, List.set_cons_zero, List.set_cons_succ, Nat.reduceAdd, Nat.reduceSub, Nat.reduceMul, evK_go, reduceIte, Nat.reduceEqDiff, Nat.reduceLT]
          refine ⟨by omega, k + 1, ⟨by omega, g1 e⟩, by omega, ?_⟩
          refine Wkn.of [] [] ?_
          simp (implicitDefEqProofs := false) (dsimp := false) only [List.set_cons_zero, List.set_cons_succ, Bool.and_self, Nat.reduceAdd, Nat.reduceSub, Nat.reduceMul, List.replicate, evK_go, reduceIte, Nat.reduceEqDiff, Nat.reduceLT, and_self, List.foldl_cons, List.foldl_nil, Int.cast_ofNat_Int, Int.natCast_add, slots, wkL_nil, wkL_cons, wkB_nil, wkR_nil, wkV_j, wkV_d, frz_d, reduceCtorEq]
      · have e : lineErr n (l.getD k default) = 1 := by simp (implicitDefEqProofs := false) (dsimp := false) only [lineErr, hb, Bool.and_false, reduceIte]
        rw [g2 (by rw [e]; decide), e]
        simp (implicitDefEqProofs := false) (dsimp := false) only [hb, ↓aw_seq, ↓aw_ret, ↓aw_reg, ↓Qseq_n, ↓Qseq_r, ↓Qblk_r, ↓Qret_r, ↓ops_nil, ↓ops_cons, ↓eval_tmp, ↓eval_int, ↓put_some, ↓op_assign, ↓td_d, ↓ret_1, List.getD_cons_zero, List.getD_cons_succ, List.set_cons_zero, List.set_cons_succ, Nat.reduceAdd, Nat.reduceSub, Nat.reduceMul, evK_go, reduceIte, Bool.not_false, Nat.reduceEqDiff, Nat.reduceLT]
    · obtain rfl : k = l.length := by omega
      rw [List.take_length] at h2
      simp (implicitDefEqProofs := false) (dsimp := false) only [h2, ↓aw_seq, ↓aw_exit, ↓aw_ret, ↓aw_reg, ↓Qseq_n, ↓Qseq_x, ↓Qblk_x, ↓Qret_r, ↓ops_nil, ↓ops_cons, ↓eval_tmp, ↓eval_int, ↓put_some, ↓op_assign, ↓td_d, ↓ret_1, List.getD_cons_zero, List.getD_cons_succ, List.set_cons_zero, List.set_cons_succ, Nat.reduceAdd, Nat.reduceSub, Nat.reduceMul, evK_go, reduceIte, decide_false, Nat.reduceEqDiff, Nat.reduceLT, Nat.lt_irrefl]
theorem lines_call (n : Int) (l : List (Int × Int)) (pure : Bool) (σ : St) (dst : Option Tmp) (K : St → Prop) : CallH Try.prog 38 [I .i64 n, .l (l.map lnD)] pure σ dst (.mk : Hid K) = OrH ((l.length < 2 ^ 62) ∧ (pure || D.flat (I .i64 (chk n l))) = true ∧ evK (σ.put dst (.d (I .i64 (chk n l)))) (.mk : Hid K)) (.mk : Hid (CallH Try.prog 38 [I .i64 n, .l (l.map lnD)] pure σ dst (.mk : Hid K))) := CallH.eq (lines_spec n l) pure σ dst K
theorem lines_callQ (n : Int) (l : List (Int × Int)) (pure : Bool) (C : V → Prop) : CallQ Try.prog 38 [I .i64 n, .l (l.map lnD)] pure (.mk : Hid C) = OrH ((l.length < 2 ^ 62) ∧ (pure || D.flat (I .i64 (chk n l))) = true ∧ evK (V.d (I .i64 (chk n l))) (.mk : Hid C)) (.mk : Hid (CallQ Try.prog 38 [I .i64 n, .l (l.map lnD)] pure (.mk : Hid C))) := CallQ.eq (lines_spec n l) pure C
end Go.Proofs

namespace Go.Proofs
open Go.Aw
set_option linter.unusedSimpArgs false
set_option maxRecDepth 10000
def topoE (n : Int) (l : List (Int × Int)) : Int := if chk n l = 0 then (if (topoO n.toNat (natL l)).isSome then 0 else 5) else chk n l
def topoL (n : Int) (l : List (Int × Int)) : List Nat := if chk n l = 0 then (topoO n.toNat (natL l)).getD [] else []
theorem erD_5 : erD 5 = .c (.iface 97 (.int .i64 5)) := rfl
theorem TI.zero {n left : Nat} {l : List (Nat × Nat)} {acc : List Nat} (hl : acc.length = n) (h : TI n l left acc) : left = 0 := by
  apply Nat.eq_of_testBit_eq
  intro i
  rw [Nat.zero_testBit, ← Bool.not_eq_true]
  intro hi
  have hni : i ∉ acc := fun h' => by have := (h.out i h').2; rw [hi] at this; cases this
  have hsub : ∀ x ∈ i :: acc, x ∈ List.range n := fun x hx => by
    rcases List.mem_cons.1 hx with rfl | hx
    · simpa using h.lt x hi
    · simpa using (h.out x hx).1
  have := pig (List.nodup_cons.2 ⟨hni, h.nodup⟩) hsub
  simp at this; omega
structure TSt where
  m : Nat
  left : Nat
  acc : List Nat
theorem bits_lt {s n : Nat} (h : ∀ i, s.testBit i = true → i < n) (hn : n ≤ 64) : s < 2 ^ 64 := by
  apply Nat.lt_pow_two_of_testBit
  intro i hi
  rw [← Bool.not_eq_true]
  intro h'
  have := h i h'; omega
theorem order_spec (n : Int) (l : List (Int × Int)) (hpre : l.length < 2 ^ 62) : FnD Try.prog 60 [I .i64 n, .l (l.map lnD)] (.t [.l ((topoL n l).map nD), erD (topoE n l)]) := by
  refine FnD.go Try.func60 rfl rfl Try.results60 Try.ntmps60 ?_
  simp (implicitDefEqProofs := false) (dsimp := false) only [↓aw_seq, ↓aw_reg, ↓Qseq_n, ↓ops_nil, ↓ops_cons, ↓eval_tmp, ↓eval_nil, ↓eval_func, ↓put_some, ↓op_move, ↓op_assign, ↓op_call, isD_d, ↓fnK_f, ↓call_H, ↓callK_H, ↓allT_nil, ↓allT_cons, ↓td_d, List.getD_cons_zero, List.getD_cons_succ, List.set_cons_zero, List.set_cons_succ, List.cons_append, List.nil_append, List.append_nil, List.map_cons, List.map_nil, List.length_cons, List.length_nil, List.all_cons, List.all_nil, Bool.and_self, Nat.reduceAdd, Nat.reduceSub, Nat.reduceMul, Nat.zero_add, List.replicate, evK_go, reduceIte, Nat.reduceEqDiff, Nat.reduceLT, and_self, Int.zero_add]
  simp (implicitDefEqProofs := false) (dsimp := false) only [gcheck_call, eval_nilI, ↓er_neq, er_flat, ↓cdK_not, ↓aw_cond, ↓aw_seq, ↓aw_reg, ↓Qseq_n, ↓ops_nil, ↓ops_cons, ↓eval_tmp, ↓put_some, ↓bK_b, ↓op_move, ↓op_assign, ↓op_bin, List.getD_cons_zero, List.getD_cons_succ, List.set_cons_zero, List.set_cons_succ, Bool.true_and, Bool.or_true, Nat.reduceAdd, Nat.reduceSub, Nat.reduceMul, evK_go, reduceIte, Nat.reduceEqDiff, Nat.reduceLT, true_and]
  refine OrH.l (OrH.l ⟨hpre, ?_⟩)
  refine cdK_dec (fun hc => ?_) (fun hc => ?_)
  rotate_left
  · simp (implicitDefEqProofs := false) (dsimp := false) only [topoL, topoE, hc, ↓aw_seq, ↓aw_ret, ↓aw_reg, ↓Qseq_n, ↓Qseq_r, ↓Qret_r, ↓ops_nil, ↓ops_cons, ↓eval_tmp, ↓eval_nil, ↓put_some, ↓op_move, ↓op_assign, ↓td_d, ↓td_nl, ↓ret_2, List.getD_cons_zero, List.getD_cons_succ, List.set_cons_zero, List.set_cons_succ, List.map_nil, Nat.reduceAdd, Nat.reduceSub, Nat.reduceMul, evK_go, reduceIte, decide_false, Bool.not_false, Nat.reduceEqDiff, Nat.reduceLT]
  have ok := chk_ok hc
  rw [show topoL n l = (topoO n.toNat (natL l)).getD [] from if_pos hc, show topoE n l = (if (topoO n.toNat (natL l)).isSome then 0 else 5) from if_pos hc, lnD_nat ok.rng, hc]
  have hout := ok.out
  have hg := ok.good
  have h8 := ok.hi
  have e0 := ok.n0
  clear ok hc hpre
  generalize n.toNat = m at *
  subst e0
  generalize natL l = L at *
  simp (implicitDefEqProofs := false) (dsimp := false) only [out_callD, hout, below_call, ↓aw_seq, ↓aw_block, ↓aw_skip, ↓aw_loop, ↓aw_reg, ↓Qseq_n, ↓ops_nil, ↓ops_cons, ↓eval_tmp, ↓eval_nil, ↓eval_func, ↓put_some, ↓put_none, ↓op_move, ↓op_assign, ↓op_call, ↓op_alloc, ↓op_store, isD_d, ↓fnK_f, ↓call_H, ↓callK_H, ↓allT_nil, ↓allT_cons, ↓td_d, ↓addBox_mk, ↓setBox_mk, ↓st_bx, ↓vcells_l, ↓vcells_nl, ↓one_l, ↓vone_d, constV_n, ↓st_p, ↓ty84, ↓zb84, List.getD_cons_zero, List.getD_cons_succ, List.set_cons_zero, List.set_cons_succ, List.nil_append, List.append_nil, List.length_cons, List.length_nil, List.all_cons, List.all_nil, Bool.true_and, Bool.and_self, Bool.true_or, Nat.reduceAdd, Nat.reduceSub, Nat.reduceMul, Nat.zero_add, evK_go, reduceIte, decide_true, Bool.not_true, Nat.reduceEqDiff, Nat.reduceLT, and_self, true_and, Int.zero_add]
  refine OrH.l (OrH.l ⟨hout.2.2, OrH.l (OrH.l ⟨by omega, ?_⟩)⟩)
  refine loopW (fun st : TSt => { tm := slots 55 [(7, .p 0 0), (8, .d (U st.left)), (9, .o 0 0 st.acc.length)], bx := [.d (.l ((outS m L).map U))], rw := [some ⟨1, st.acc.map nD⟩] })
    (fun st => TI m L st.left st.acc ∧ st.acc.length + st.m = m ∧ topoGo (outS m L) st.m st.left st.acc = topoO m L) (fun st => st.m) ⟨m, 2 ^ m - 1, []⟩ ⟨.start m L, by simp, rfl⟩ ?_ ?_
  · refine Wkn.of [0] [none] ?_
    simp (implicitDefEqProofs := false) (dsimp := false) only [↓row_xs, ↓vcells_l, List.getD_cons_zero, List.set_cons_zero, List.set_cons_succ, List.map_nil, List.length_cons, List.length_nil, Bool.and_self, Nat.reduceAdd, Nat.reduceSub, Nat.reduceMul, Nat.zero_add, List.replicate, evK_go, reduceIte, Nat.reduceEqDiff, Nat.reduceLT, and_self, Int.zero_add, List.foldl_cons, List.foldl_nil, slots, wkL_nil, wkL_cons, wkB_nil, wkB_cons, wkR_nil, wkR_new, wkV_j, wkV_d, nlK_nl, wkV_o, wkV_p, frz_d, oK_zn, pK_z, reduceCtorEq]
  · rintro ⟨q, left, acc⟩ ⟨hTI, hlen, hgo⟩
    simp only at hTI hlen hgo
    have hl64 := bits_lt hTI.lt (by omega)
    simp (implicitDefEqProofs := false) (dsimp := false) only [slots, ↓cdK_not, ↓aw_cond, ↓aw_seq, ↓aw_reg, ↓Qseq_n, ↓ops_nil, ↓ops_cons, ↓eval_tmp, ↓eval_int, ↓put_some, ↓bK_b, ↓binE_i, ↓bi_neq, ↓op_move, ↓op_bin, List.getD_cons_zero, List.getD_cons_succ, List.set_cons_zero, List.set_cons_succ, Nat.reduceAdd, Nat.reduceSub, Nat.reduceMul, List.replicate, evK_go, reduceIte, Nat.reduceEqDiff, Nat.reduceLT, List.foldl_cons, List.foldl_nil]
    refine cdK_dec (fun h => ?_) (fun h => ?_)
    · have h0 : left = 0 := by omega
      subst h0
      have : topoO m L = some acc := by
        rw [← hgo]
        cases q with
        | zero => rfl
        | succ q => unfold topoGo; rw [if_pos rfl]
      rw [this]
      simp (implicitDefEqProofs := false) (dsimp := false) only [eval_nilI, ↓optK_some, ↓rwK_mk_, ↓aw_seq, ↓aw_exit, ↓aw_ret, ↓aw_reg, ↓Qseq_n, ↓Qseq_x, ↓Qblk_x, ↓Qret_r, ↓ops_nil, ↓ops_cons, ↓eval_tmp, ↓put_some, ↓op_move, ↓op_assign, ↓td_d, ↓td_o, ↓ret_2, ↓row_xs, ↓take_map, List.getD_cons_zero, List.getD_cons_succ, List.set_cons_zero, List.set_cons_succ, Nat.reduceAdd, Nat.reduceSub, Nat.reduceMul, evK_go, reduceIte, decide_true, Bool.not_true, Nat.reduceEqDiff, Nat.reduceLT, Option.getD_some, List.drop_zero, Int.cast_ofNat_Int]
      rfl
    · have h0 : left ≠ 0 := by omega
      cases q with
      | zero => exact absurd (hTI.zero (by omega)) h0
      | succ q =>
      have hol := outS_len m L
      have hot := outS_lt' (n := m) (by omega) hg
      simp (implicitDefEqProofs := false) (dsimp := false) only [each_call, ↓aw_seq, ↓aw_block, ↓aw_skip, ↓aw_rng, ↓aw_reg, ↓Qseq_n, ↓ops_nil, ↓ops_cons, ↓eval_tmp, ↓eval_int, ↓eval_func, ↓put_some, ↓put_none, ↓op_move, ↓op_call, ↓op_alloc, ↓op_store, isD_d, ↓fnK_f, ↓call_H, ↓callK_H, ↓allT_nil, ↓allT_cons, ↓td_d, ↓addBox_mk, ↓setBox_mk, ↓st_bx, ↓vcells_c, ↓one_i, ↓vone_d, constV_i, ↓st_p, ↓ty87, ↓zb87, List.getD_cons_zero, List.getD_cons_succ, List.set_cons_zero, List.set_cons_succ, List.cons_append, List.nil_append, List.append_nil, List.length_cons, List.length_nil, List.all_cons, List.all_nil, Bool.true_and, Bool.and_self, Bool.true_or, Nat.reduceAdd, Nat.reduceSub, Nat.reduceMul, Nat.zero_add, evK_go, reduceIte, Nat.reduceEqDiff, Nat.reduceLT, and_self, true_and, Int.zero_add]
      refine OrH.l (OrH.l ?_)
      refine rangeW (slots 55 [(7, .p 0 0), (8, .d (U left)), (9, .o 0 0 acc.length), (10, .p 1 0), (27, .d (.f (.func 99) [.q [U left]]))])
        (fun P : List Nat => [.d (.l ((outS m L).map U)), .d (U (orL (outS m L) P))]) (fun _ => [some ⟨1, acc.map nD⟩]) (fun ys P => ys = P.map Int.ofNat) []
        (by simp [slots]) (each_iter _ hl64) ?_ rfl ?_ ?_ ?_
      · simp (implicitDefEqProofs := false) (dsimp := false) only [slots, ↓eval_tmp, List.getD_cons_zero, List.getD_cons_succ, List.set_cons_zero, List.set_cons_succ, Nat.reduceAdd, Nat.reduceSub, Nat.reduceMul, List.replicate, evK_go, reduceIte, Nat.reduceEqDiff, Nat.reduceLT, List.foldl_cons, List.foldl_nil]
      · refine Wkn.of [0, 1] [some 0] ?_
        simp (implicitDefEqProofs := false) (dsimp := false) only [orL, List.foldl_nil, ↓vcells_c, ↓vcells_l, List.getD_cons_zero, List.getD_cons_succ, List.set_cons_zero, List.set_cons_succ, List.length_cons, List.length_nil, Bool.and_self, Nat.reduceAdd, Nat.reduceSub, Nat.reduceMul, Nat.zero_add, List.replicate, evK_go, reduceIte, Nat.reduceEqDiff, Nat.reduceLT, and_self, Int.zero_add, List.foldl_cons, List.foldl_nil, Int.cast_ofNat_Int, slots, wkL_nil, wkL_cons, wkB_nil, wkB_cons, wkR_nil, wkR_some, wkV_j, wkV_d, wkV_o, wkV_p, frz_d, oK_zs, pK_z, pK_s, dc_eq, reduceCtorEq]
      · rintro ys x P hpx rfl
        obtain ⟨P', c, hP, rfl, hcc⟩ := prefix_map hpx
        obtain rfl : P = P' := ofNat_inj hP
        have hcm := (pts_mem _ _).1 (hcc.subset (by simp : c ∈ P ++ [c]))
        have hcl : c < (outS m L).length := by rw [hol]; exact hTI.lt c hcm.2
        have hct := hot _ (getD_mem hcl)
        have hor := orL_lt hot P
        simp (implicitDefEqProofs := false) (dsimp := false) only [slots, hcl, hct, hor, ↓atK_H, ↓atH_map, ↓nthK_H, ↓nthH_zero, ↓aw_block, ↓aw_reg, ↓aw_draw, ↓Qblk_n, ↓ops_nil, ↓ops_cons, ↓eval_tmp, ↓put_some, ↓put_none, ↓iK_i, ↓ev_move, ↓ev_load, ↓ev_bin, ↓ev_ia, ↓binE_i, ↓bi_or, ↓ldK_q, ↓ldK_p, ↓iaK_l, ↓op_assign, ↓op_store, ↓draw_H, ↓h_cons, ↓ldH_t, ↓ldH_n, ↓q_move, ↓q_load, ↓q_bin, ↓q_ia, ↓il_move, ↓il_load, ↓il_bin, ↓il_ia, ↓il_store, ↓setBox_mk, ↓st_bx, ↓cells_c, ↓vcells_c, ↓vcells_l, ↓one_i, ↓vone_d, ↓st_p, ↓hd_cons, ↓Qn_n, ↓Qrd_n, ↓back_mk, ↓ty84, ↓sl84, ↓ty87, List.getD_cons_zero, List.getD_cons_succ, List.set_cons_zero, List.set_cons_succ, List.length_cons, List.length_nil, List.all_cons, List.all_nil, Bool.true_and, Bool.and_self, Nat.reduceAdd, Nat.reduceSub, Nat.reduceMul, Nat.zero_add, Int.toNat_natCast, List.replicate, evK_go, reduceIte, Nat.reduceEqDiff, Nat.reduceLT, and_self, true_and, Int.zero_add, List.foldl_cons, List.foldl_nil, Int.natCast_nonneg]
        refine OrH.l ⟨DrawH.of follows_mixed (by kernel_rfl), ?_⟩
        refine ⟨P ++ [c], by simp, ?_⟩
        refine Wkn.of [0, 1] [some 0] ?_
        simp (implicitDefEqProofs := false) (dsimp := false) only [orL_snoc, ↓vcells_c, ↓vcells_l, List.getD_cons_zero, List.getD_cons_succ, List.length_cons, List.length_nil, Bool.and_self, Nat.reduceAdd, Nat.reduceSub, Nat.reduceMul, Nat.zero_add, evK_go, reduceIte, Nat.reduceEqDiff, Nat.reduceLT, and_self, Int.zero_add, slots, wkL_nil, wkL_cons, wkB_nil, wkB_cons, wkR_nil, wkR_some, wkV_j, wkV_d, wkV_o, wkV_p, frz_d, oK_zs, pK_z, pK_s, reduceCtorEq]
      · rintro P hP
        obtain rfl : pts left = P := ofNat_inj hP
        have hor := orL_lt hot (pts left)
        have hF : dif left (orL (outS m L) (pts left)) < 2 ^ 64 := dif_lt hl64
        have hgo2 : (if pts (dif left (orL (outS m L) (pts left))) = [] then none else topoGo (outS m L) q (dif left (2 ^ low (dif left (orL (outS m L) (pts left))))) (acc ++ [low (dif left (orL (outS m L) (pts left)))])) = topoO m L := by
          rw [← hgo]
          show _ = (if left = 0 then _ else _)
          rw [if_neg h0]; rfl
        have hnx := fun j hj => hTI.next (n := m) (by omega) hg (j := j) hj
        simp (implicitDefEqProofs := false) (dsimp := false) only [freeS] at hnx
        simp (implicitDefEqProofs := false) (dsimp := false) only [slots, hor, hl64, list_callD, hF, ↓nthK_H, ↓nthH_zero, ↓aw_cond, ↓aw_seq, ↓aw_reg, ↓Qseq_n, ↓Qblk_n, ↓ops_nil, ↓ops_cons, ↓eval_tmp, ↓eval_int, ↓eval_func, ↓put_some, ↓bK_b, ↓lenK_l, ↓binE_i, ↓bi_eql, ↓bi_andNot, ↓ldK_p, ↓op_move, ↓op_assign, ↓op_load, ↓op_bin, ↓op_len, ↓op_call, isD_d, ↓fnK_f, ↓call_H, ↓callK_H, ↓allT_nil, ↓allT_cons, ↓td_d, ↓vcells_c, ↓sl28, ↓ty87, List.getD_cons_zero, List.getD_cons_succ, List.set_cons_zero, List.set_cons_succ, List.append_nil, List.length_map, List.all_cons, List.all_nil, Bool.true_and, Bool.and_self, Bool.true_or, Nat.reduceAdd, Nat.reduceSub, Nat.reduceMul, List.replicate, evK_go, reduceIte, Nat.reduceEqDiff, Nat.reduceLT, and_self, true_and, List.foldl_cons, List.foldl_nil]
        generalize dif left (orL (outS m L) (pts left)) = F at hF hgo2 hnx ⊢
        refine OrH.l (OrH.l ?_)
        refine cdK_dec (fun he => ?_) (fun he => ?_)
        · have hp : pts F = [] := List.eq_nil_of_length_eq_zero (by simpa [ptsI] using he)
          rw [if_pos hp] at hgo2
          rw [← hgo2]
          simp (implicitDefEqProofs := false) (dsimp := false) only [nc97, ↓aw_seq, ↓aw_ret, ↓aw_reg, ↓Qseq_n, ↓Qseq_r, ↓Qblk_r, ↓Qret_r, ↓ops_nil, ↓ops_cons, ↓eval_tmp, ↓eval_int, ↓eval_nil, ↓put_some, ↓vK_c, ↓op_assign, ↓op_iface, ↓td_d, ↓td_nl, ↓ret_2, ↓nc97, List.getD_cons_zero, List.getD_cons_succ, List.set_cons_zero, List.set_cons_succ, List.map_nil, Bool.true_and, Nat.reduceAdd, Nat.reduceSub, Nat.reduceMul, evK_go, reduceIte, Nat.reduceEqDiff, Nat.reduceLT, true_and, Option.getD_none]
          rfl
        · have hp : pts F ≠ [] := fun e => he (by simp [ptsI, e])
          rw [if_neg hp] at hgo2
          have e1 : (ptsI F).getD 0 default = (low F : Int) := by
            unfold low ptsI
            cases hpp : pts F with
            | nil => exact absurd hpp hp
            | cons x t => rfl
          have hpos : 0 < (ptsI F).length := by rw [ptsI, List.length_map]; exact List.length_pos_iff.2 hp
          have hlow := (pts_mem _ _).1 (low_mem hp)
          have hl2 : low F < 64 := hlow.1
          simp (implicitDefEqProofs := false) (dsimp := false) only [hpos, e1, without_call, hl64, hl2, ↓optK_some, ↓rwK_mk_, ↓atK_H, ↓atH_map, ↓aw_seq, ↓aw_skip, ↓aw_reg, ↓Qseq_n, ↓Qblk_n, ↓ops_nil, ↓ops_cons, ↓eval_tmp, ↓eval_int, ↓eval_func, ↓put_some, ↓iK_i, ↓dK_d, ↓ldK_q, ↓iaK_l, ↓op_move, ↓op_assign, ↓op_load, ↓op_ia, ↓op_append, ↓op_call, isD_d, ↓fnK_f, ↓call_H, ↓callK_H, ↓allT_nil, ↓allT_cons, ↓allD_nil, ↓allD_cons, ↓td_d, ↓app_mk, ↓row_sz, ↓row_xs, kill_d, kill_j, kill_p, kill_o, ↓cells_c, ↓one_i, ↓ap_, ↓ap_o, ↓src_l, ↓bs_, ↓op_bs, ↓bsL_f, ↓stored_mk, ↓sl_nil, ↓sl_cons, ↓sT_move, ↓sT_assign, ↓sT_load, ↓sT_ia, ↓sT_bs, ↓sT_call, ↓vsz_int, ↓inO_1, ↓fm_nil, ↓fm_cons, ↓hd_cons, ↓ty3, ↓zb3, ↓sl28, List.getD_cons_zero, List.getD_cons_succ, List.set_cons_zero, List.set_cons_succ, List.append_nil, List.map_cons, List.map_nil, List.length_cons, List.length_nil, List.length_map, List.all_cons, List.all_nil, Bool.true_and, Bool.and_self, Bool.true_or, Bool.or_false, Nat.reduceAdd, Nat.reduceSub, Nat.reduceMul, Nat.zero_add, Int.toNat_zero, evK_go, reduceIte, Nat.reduceEqDiff, Nat.reduceLT, and_self, true_and, Int.zero_add, List.drop_zero]
          refine ⟨by decide, by decide, ⟨fun _ => trivial, by omega, by omega⟩, by decide, OrH.l (OrH.l ⟨⟨q, dif left (2 ^ low F), acc ++ [low F]⟩, ⟨hnx _ hlow.2, by simp; omega, hgo2⟩, by simp, ?_⟩)⟩
          refine Wkn.of [0] [some 0] ?_
          simp (implicitDefEqProofs := false) (dsimp := false) only [List.map_append, List.length_append, nD, ↓vcells_l, List.getD_cons_zero, List.set_cons_zero, List.set_cons_succ, List.map_cons, List.map_nil, List.length_cons, List.length_nil, Bool.and_self, Nat.reduceAdd, Nat.reduceSub, Nat.reduceMul, Nat.zero_add, List.replicate, evK_go, reduceIte, Nat.reduceEqDiff, Nat.reduceLT, and_self, Int.zero_add, List.foldl_cons, List.foldl_nil, slots, wkL_nil, wkL_cons, wkB_nil, wkB_cons, wkR_nil, wkR_some, wkV_j, wkV_d, wkV_o, wkV_p, frz_d, oK_zs, pK_z, reduceCtorEq]
theorem order_call (n : Int) (l : List (Int × Int)) (pure : Bool) (σ : St) (dst : Option Tmp) (K : St → Prop) : CallH Try.prog 60 [I .i64 n, .l (l.map lnD)] pure σ dst (.mk : Hid K) = OrH ((l.length < 2 ^ 62) ∧ (pure || D.flat (.t [.l ((topoL n l).map nD), erD (topoE n l)])) = true ∧ evK (σ.put dst (.d (.t [.l ((topoL n l).map nD), erD (topoE n l)]))) (.mk : Hid K)) (.mk : Hid (CallH Try.prog 60 [I .i64 n, .l (l.map lnD)] pure σ dst (.mk : Hid K))) := CallH.eq (order_spec n l) pure σ dst K
theorem order_callQ (n : Int) (l : List (Int × Int)) (pure : Bool) (C : V → Prop) : CallQ Try.prog 60 [I .i64 n, .l (l.map lnD)] pure (.mk : Hid C) = OrH ((l.length < 2 ^ 62) ∧ (pure || D.flat (.t [.l ((topoL n l).map nD), erD (topoE n l)])) = true ∧ evK (V.d (.t [.l ((topoL n l).map nD), erD (topoE n l)])) (.mk : Hid C)) (.mk : Hid (CallQ Try.prog 60 [I .i64 n, .l (l.map lnD)] pure (.mk : Hid C))) := CallQ.eq (order_spec n l) pure C
end Go.Proofs

namespace Go.Proofs
open Go.Aw
set_option linter.unusedSimpArgs false
set_option maxRecDepth 10000
def fewR (n : Int) (l : List (Int × Int)) : List (Nat × Nat) := if topoE n l = 0 then few n.toNat (natL l) else []
def fewK (n : Nat) (l : List (Nat × Nat)) (k : Nat) : List (Nat × Nat) := (List.range k).flatMap fun i => (pts (fewB n l i)).map fun j => (i, j)
theorem fewK_succ (n : Nat) (l : List (Nat × Nat)) (k : Nat) : fewK n l (k + 1) = fewK n l k ++ (pts (fewB n l k)).map fun j => (k, j) := by
  unfold fewK
  rw [List.range_succ, List.flatMap_append]
  simp
theorem topoE_zero {n : Int} {l : List (Int × Int)} (h : topoE n l = 0) : chk n l = 0 ∧ ∃ o, topoO n.toNat (natL l) = some o := by
  unfold topoE at h
  split at h
  · rename_i hc
    refine ⟨hc, ?_⟩
    cases e : topoO n.toNat (natL l) with
    | some o => exact ⟨o, rfl⟩
    | none => rw [e] at h; cases h
  · rename_i hc; exact absurd h hc
theorem fewK_len (n : Nat) (l : List (Nat × Nat)) (k : Nat) : (fewK n l k).length ≤ k * 64 := by
  induction k with
  | zero => simp [fewK]
  | succ k ih =>
    rw [fewK_succ, List.length_append, List.length_map]
    have := pts_len (fewB n l k)
    omega
theorem few_spec (n : Int) (l : List (Int × Int)) (hpre : l.length < 2 ^ 62) : FnD Try.prog 40 [I .i64 n, .l (l.map lnD)] (.t [.l ((fewR n l).map lnN), erD (topoE n l)]) := by
  refine FnD.go Try.func40 rfl rfl Try.results40 Try.ntmps40 ?_
  simp (implicitDefEqProofs := false) (dsimp := false) only [↓aw_seq, ↓aw_reg, ↓Qseq_n, ↓ops_nil, ↓ops_cons, ↓eval_tmp, ↓eval_nil, ↓eval_func, ↓put_some, ↓op_move, ↓op_assign, ↓op_call, isD_d, ↓fnK_f, ↓call_H, ↓callK_H, ↓allT_nil, ↓allT_cons, ↓td_d, List.getD_cons_zero, List.getD_cons_succ, List.set_cons_zero, List.set_cons_succ, List.cons_append, List.nil_append, List.append_nil, List.map_cons, List.map_nil, List.length_cons, List.length_nil, List.all_cons, List.all_nil, Bool.and_self, Nat.reduceAdd, Nat.reduceSub, Nat.reduceMul, Nat.zero_add, List.replicate, evK_go, reduceIte, Nat.reduceEqDiff, Nat.reduceLT, and_self, Int.zero_add]
  simp (implicitDefEqProofs := false) (dsimp := false) only [order_call, eval_nilI, ↓er_neq, ↓cdK_not, ↓nthK_H, ↓nthH_zero, ↓nthH_succ, ↓aw_cond, ↓aw_seq, ↓aw_reg, ↓Qseq_n, ↓ops_nil, ↓ops_cons, ↓eval_tmp, ↓put_some, ↓bK_b, ↓tK_t, ↓op_move, ↓op_assign, ↓op_bin, ↓op_extract, List.getD_cons_zero, List.getD_cons_succ, List.set_cons_zero, List.set_cons_succ, Bool.true_and, Bool.true_or, Nat.reduceAdd, Nat.reduceSub, Nat.reduceMul, evK_go, reduceIte, Nat.reduceEqDiff, Nat.reduceLT, true_and]
  refine OrH.l (OrH.l ⟨hpre, ?_⟩)
  refine cdK_dec (fun hc => ?_) (fun hc => ?_)
  rotate_left
  · simp (implicitDefEqProofs := false) (dsimp := false) only [fewR, hc, ↓aw_seq, ↓aw_ret, ↓aw_reg, ↓Qseq_n, ↓Qseq_r, ↓Qret_r, ↓ops_nil, ↓ops_cons, ↓eval_tmp, ↓eval_nil, ↓put_some, ↓op_move, ↓op_assign, ↓td_d, ↓td_nl, ↓ret_2, List.getD_cons_zero, List.getD_cons_succ, List.set_cons_zero, List.set_cons_succ, List.map_nil, Nat.reduceAdd, Nat.reduceSub, Nat.reduceMul, evK_go, reduceIte, decide_false, Bool.not_false, Nat.reduceEqDiff, Nat.reduceLT]
  obtain ⟨hchk, o, ho⟩ := topoE_zero hc
  have ok := chk_ok hchk
  rw [show fewR n l = few n.toNat (natL l) from if_pos hc, lnD_nat ok.rng, hc]
  have hcr := ok.cr
  have h8 := ok.hi
  have e0 := ok.n0
  clear ok hc hpre hchk ho
  generalize topoL n l = TL
  generalize n.toNat = m at *
  subst e0
  generalize natL l = L at *
  have hwl := war_len hcr.2.2
  have hwt := war_lt hcr.1 hcr.2.2
  simp (implicitDefEqProofs := false) (dsimp := false) only [creach_callD, hcr, ↓aw_seq, ↓aw_block, ↓aw_skip, ↓aw_loop, ↓aw_reg, ↓Qseq_n, ↓ops_nil, ↓ops_cons, ↓eval_tmp, ↓eval_int, ↓eval_func, ↓put_some, ↓put_none, ↓op_move, ↓op_call, ↓op_alloc, ↓op_store, isD_d, ↓fnK_f, ↓call_H, ↓callK_H, ↓allT_nil, ↓allT_cons, ↓td_d, ↓addBox_mk, ↓setBox_mk, ↓st_bx, ↓vcells_l, ↓vcells_nl, ↓one_l, ↓vone_d, constV_n, ↓st_p, ↓zb22, ↓ty84, ↓zb84, List.getD_cons_zero, List.getD_cons_succ, List.set_cons_zero, List.set_cons_succ, List.cons_append, List.nil_append, List.append_nil, List.length_cons, List.length_nil, List.all_cons, List.all_nil, Bool.true_and, Bool.and_self, Bool.true_or, Nat.reduceAdd, Nat.reduceSub, Nat.reduceMul, Nat.zero_add, evK_go, reduceIte, decide_true, Bool.not_true, Nat.reduceEqDiff, Nat.reduceLT, and_self, true_and, Int.zero_add]
  refine OrH.l (OrH.l ?_)
  refine loopW (fun k : Nat => { tm := slots 58 [(8, .p 0 0), (9, .p 1 0), (26, .d (I .i64 (m : Int))), (27, .d (I .i64 k))], bx := [.d (.l ((war m L).map U)), .o 0 0 (fewK m L k).length], rw := [some ⟨2, (fewK m L k).map lnN⟩] })
    (fun k => k ≤ m) (fun k => m - k) 0 (by simp) ?_ ?_
  · refine Wkn.of [0, 1] [none] ?_
    simp (implicitDefEqProofs := false) (dsimp := false) only [fewK, List.range_zero, List.flatMap_nil, ↓row_xs, ↓vcells_l, ↓vcells_nl, ↓vcells_o, List.getD_cons_zero, List.getD_cons_succ, List.set_cons_zero, List.set_cons_succ, List.map_nil, List.length_cons, List.length_nil, Bool.and_self, Nat.reduceAdd, Nat.reduceSub, Nat.reduceMul, Nat.zero_add, List.replicate, evK_go, reduceIte, Nat.reduceEqDiff, Nat.reduceLT, and_self, Int.zero_add, List.foldl_cons, List.foldl_nil, Int.cast_ofNat_Int, slots, wkL_nil, wkL_cons, wkB_nil, wkB_cons, wkR_nil, wkR_new, wkV_j, wkV_d, nlK_nl, wkV_o, wkV_p, frz_d, oK_zn, pK_z, pK_s, reduceCtorEq]
  · intro k hk
    simp (implicitDefEqProofs := false) (dsimp := false) only [slots, ↓aw_cond, ↓aw_seq, ↓aw_reg, ↓Qseq_n, ↓ops_nil, ↓ops_cons, ↓eval_tmp, ↓put_some, ↓bK_b, ↓binE_i, ↓bi_lss, ↓op_bin, List.getD_cons_zero, List.getD_cons_succ, List.set_cons_zero, List.set_cons_succ, Nat.reduceAdd, Nat.reduceSub, Nat.reduceMul, List.replicate, evK_go, reduceIte, Nat.reduceEqDiff, Nat.reduceLT, List.foldl_cons, List.foldl_nil, Int.ofNat_lt]
    refine cdK_dec (fun h => ?_) (fun h => ?_)
    · have hkW : k < (war m L).length := by omega
      have hlt := hwt _ (getD_mem hkW)
      simp (implicitDefEqProofs := false) (dsimp := false) only [h, hkW, each_call, ↓atK_H, ↓atH_map, ↓nthK_H, ↓nthH_zero, ↓aw_seq, ↓aw_block, ↓aw_skip, ↓aw_rng, ↓aw_reg, ↓Qseq_n, ↓ops_nil, ↓ops_cons, ↓eval_tmp, ↓eval_int, ↓eval_func, ↓put_some, ↓put_none, ↓iK_i, ↓ldK_q, ↓ldK_p, ↓iaK_l, ↓op_move, ↓op_load, ↓op_ia, ↓op_call, ↓op_alloc, ↓op_store, isD_d, ↓fnK_f, ↓call_H, ↓callK_H, ↓allT_nil, ↓allT_cons, ↓td_d, ↓addBox_mk, ↓setBox_mk, ↓st_bx, ↓cells_c, ↓vcells_c, ↓vcells_l, ↓one_i, ↓vone_d, constV_i, ↓st_p, ↓hd_cons, ↓ty3, ↓zb3, ↓ty84, ↓sl84, ↓ty87, ↓zb87, List.getD_cons_zero, List.getD_cons_succ, List.set_cons_zero, List.set_cons_succ, List.cons_append, List.nil_append, List.append_nil, List.length_cons, List.length_nil, List.all_cons, List.all_nil, Bool.true_and, Bool.and_self, Bool.true_or, Nat.reduceAdd, Nat.reduceSub, Nat.reduceMul, Nat.zero_add, Int.toNat_natCast, evK_go, reduceIte, decide_true, Nat.reduceEqDiff, Nat.reduceLT, and_self, true_and, Int.zero_add, Int.natCast_nonneg]
      refine OrH.l (OrH.l ?_)
      refine rangeW (slots 58 [(8, .p 0 0), (9, .p 1 0), (10, .p 2 0), (11, .p 3 0), (26, .d (I .i64 (m : Int))), (27, .d (I .i64 (k : Int))), (34, .d (.f (.func 99) [.q [U ((war m L).getD k default)]]))])
        (fun P : List Nat => [.d (.l ((war m L).map U)), .o 0 0 (fewK m L k).length, .d (I .i64 (k : Int)), .d (U (orL (war m L) P))]) (fun _ => [some ⟨2, (fewK m L k).map lnN⟩]) (fun ys P => ys = P.map Int.ofNat) []
        (by simp [slots]) (each_iter _ hlt) ?_ rfl ?_ ?_ ?_
      · simp (implicitDefEqProofs := false) (dsimp := false) only [slots, ↓eval_tmp, List.getD_cons_zero, List.getD_cons_succ, List.set_cons_zero, List.set_cons_succ, Nat.reduceAdd, Nat.reduceSub, Nat.reduceMul, List.replicate, evK_go, reduceIte, Nat.reduceEqDiff, Nat.reduceLT, List.foldl_cons, List.foldl_nil]
      · refine Wkn.of [0, 1, 2, 3] [some 0] ?_
        simp (implicitDefEqProofs := false) (dsimp := false) only [orL, List.foldl_nil, ↓vcells_c, ↓vcells_l, ↓vcells_o, List.getD_cons_zero, List.getD_cons_succ, List.set_cons_zero, List.set_cons_succ, List.length_cons, List.length_nil, Bool.and_self, Nat.reduceAdd, Nat.reduceSub, Nat.reduceMul, Nat.zero_add, List.replicate, evK_go, reduceIte, Nat.reduceEqDiff, Nat.reduceLT, and_self, Int.zero_add, List.foldl_cons, List.foldl_nil, Int.cast_ofNat_Int, slots, wkL_nil, wkL_cons, wkB_nil, wkB_cons, wkR_nil, wkR_some, wkV_j, wkV_d, wkV_o, wkV_p, frz_d, oK_zs, pK_z, pK_s, dc_eq, reduceCtorEq]
      · rintro ys x P hpx rfl
        obtain ⟨P', c, hP, rfl, hcc⟩ := prefix_map hpx
        obtain rfl : P = P' := ofNat_inj hP
        have hcm := (pts_mem _ _).1 (hcc.subset (by simp : c ∈ P ++ [c]))
        have hcl : c < (war m L).length := by rw [hwl]; exact ((((war_bit hcr.2.2 _ _).1 hcm.2).lt hcr.2.2)).2
        have hct := hwt _ (getD_mem hcl)
        have hor := orL_lt hwt P
        simp (implicitDefEqProofs := false) (dsimp := false) only [slots, hcl, hct, hor, ↓atK_H, ↓atH_map, ↓nthK_H, ↓nthH_zero, ↓aw_block, ↓aw_reg, ↓aw_draw, ↓Qblk_n, ↓ops_nil, ↓ops_cons, ↓eval_tmp, ↓put_some, ↓put_none, ↓iK_i, ↓ev_move, ↓ev_load, ↓ev_bin, ↓ev_ia, ↓binE_i, ↓bi_or, ↓ldK_q, ↓ldK_p, ↓iaK_l, ↓op_assign, ↓op_store, ↓draw_H, ↓h_cons, ↓ldH_t, ↓ldH_n, ↓q_move, ↓q_load, ↓q_bin, ↓q_ia, ↓il_move, ↓il_load, ↓il_bin, ↓il_ia, ↓il_store, ↓setBox_mk, ↓st_bx, ↓cells_c, ↓vcells_c, ↓vcells_l, ↓one_i, ↓vone_d, ↓st_p, ↓hd_cons, ↓Qn_n, ↓Qrd_n, ↓back_mk, ↓ty84, ↓sl84, ↓ty87, List.getD_cons_zero, List.getD_cons_succ, List.set_cons_zero, List.set_cons_succ, List.length_cons, List.length_nil, List.all_cons, List.all_nil, Bool.true_and, Bool.and_self, Nat.reduceAdd, Nat.reduceSub, Nat.reduceMul, Nat.zero_add, Int.toNat_natCast, List.replicate, evK_go, reduceIte, Nat.reduceEqDiff, Nat.reduceLT, and_self, true_and, Int.zero_add, List.foldl_cons, List.foldl_nil, Int.natCast_nonneg]
        refine OrH.l ⟨DrawH.of follows_mixed (by kernel_rfl), ?_⟩
        refine ⟨P ++ [c], by simp, ?_⟩
        refine Wkn.of [0, 1, 2, 3] [some 0] ?_
        simp (implicitDefEqProofs := false) (dsimp := false) only [orL_snoc, ↓vcells_c, ↓vcells_l, ↓vcells_o, List.getD_cons_zero, List.getD_cons_succ, List.length_cons, List.length_nil, Bool.and_self, Nat.reduceAdd, Nat.reduceSub, Nat.reduceMul, Nat.zero_add, evK_go, reduceIte, Nat.reduceEqDiff, Nat.reduceLT, and_self, Int.zero_add, slots, wkL_nil, wkL_cons, wkB_nil, wkB_cons, wkR_nil, wkR_some, wkV_j, wkV_d, wkV_o, wkV_p, frz_d, oK_zs, pK_z, pK_s, reduceCtorEq]
      · rintro P hP
        obtain rfl : pts ((war m L).getD k default) = P := ofNat_inj hP
        have hor := orL_lt hwt (pts ((war m L).getD k default))
        have hF : fewB m L k < 2 ^ 64 := dif_lt hlt
        have eF : dif ((war m L).getD k default) (orL (war m L) (pts ((war m L).getD k default))) = fewB m L k := rfl
        simp (implicitDefEqProofs := false) (dsimp := false) only [slots, hkW, hlt, hor, each_callQ, eF, ↓atK_H, ↓atH_map, ↓nthK_H, ↓nthH_zero, ↓aw_seq, ↓aw_block, ↓aw_rng, ↓aw_draw, ↓Qseq_n, ↓Qblk_n, ↓eval_tmp, ↓eval_func, ↓put_some, ↓iK_i, ↓ev_load, ↓ev_bin, ↓ev_ia, ↓binE_i, ↓bi_andNot, ↓ldK_q, ↓ldK_p, ↓iaK_l, isD_d, ↓fnK_f, ↓callKQ_H, ↓allT_nil, ↓allT_cons, ↓td_d, ↓draw_H, ↓h_nil, ↓h_cons, ↓ldH_n, ↓q_call, ↓q_load, ↓q_bin, ↓q_ia, ↓il_load, ↓il_bin, ↓il_ia, ↓il_call, ↓cells_c, ↓vcells_c, ↓vcells_l, ↓hd_cons, ↓ty3, ↓ty84, ↓sl84, ↓ty87, List.getD_cons_zero, List.getD_cons_succ, List.set_cons_zero, List.set_cons_succ, List.append_nil, List.length_cons, List.length_nil, List.all_cons, List.all_nil, Bool.true_and, Bool.and_self, Bool.true_or, Nat.reduceAdd, Nat.reduceSub, Nat.reduceMul, Nat.zero_add, Int.toNat_natCast, List.replicate, evK_go, reduceIte, Nat.reduceEqDiff, Nat.reduceLT, and_self, true_and, Int.zero_add, List.foldl_cons, List.foldl_nil, Int.natCast_nonneg]
        refine OrH.l ⟨DrawH.of follows_mixed (by kernel_rfl), OrH.l (OrH.l ?_)⟩
        refine rangeW (slots 58 [(8, .p 0 0), (9, .p 1 0), (10, .p 2 0), (26, .d (I .i64 (m : Int))), (27, .d (I .i64 (k : Int))), (48, .d (.f (.func 99) [.q [U (fewB m L k)]]))])
          (fun P : List Nat => [.d (.l ((war m L).map U)), .o 0 0 ((fewK m L k).length + P.length), .d (I .i64 (k : Int))]) (fun P => [some ⟨2, (fewK m L k ++ P.map fun j => (k, j)).map lnN⟩]) (fun ys P => ys = P.map Int.ofNat) []
          (by simp [slots]) (each_iter _ hF) ?_ rfl ?_ ?_ ?_
        · simp (implicitDefEqProofs := false) (dsimp := false) only [slots, ↓eval_tmp, List.getD_cons_zero, List.getD_cons_succ, List.set_cons_zero, List.set_cons_succ, Nat.reduceAdd, Nat.reduceSub, Nat.reduceMul, List.replicate, evK_go, reduceIte, Nat.reduceEqDiff, Nat.reduceLT, List.foldl_cons, List.foldl_nil]
        · refine Wkn.of [0, 1, 2] [some 0] ?_
          simp (implicitDefEqProofs := false) (dsimp := false) only [↓vcells_c, ↓vcells_l, ↓vcells_o, List.getD_cons_zero, List.getD_cons_succ, List.set_cons_zero, List.set_cons_succ, List.append_nil, List.map_nil, List.length_cons, List.length_nil, Bool.and_self, Nat.reduceAdd, Nat.reduceSub, Nat.reduceMul, Nat.zero_add, Nat.add_zero, List.replicate, evK_go, reduceIte, Nat.reduceEqDiff, Nat.reduceLT, and_self, Int.zero_add, List.foldl_cons, List.foldl_nil, slots, wkL_nil, wkL_cons, wkB_nil, wkB_cons, wkR_nil, wkR_some, wkV_j, wkV_d, wkV_o, wkV_p, frz_d, oK_zs, pK_z, pK_s, reduceCtorEq]
        · rintro ys x P hpx rfl
          obtain ⟨P', c, hP, rfl, hcc⟩ := prefix_map hpx
          obtain rfl : P = P' := ofNat_inj hP
          have h1 := fewK_len m L k
          have h2 := hcc.length_le
          have h3 := pts_len (fewB m L k)
          simp (implicitDefEqProofs := false) (dsimp := false) only [List.length_append, List.length_cons, List.length_nil] at h2
          simp (implicitDefEqProofs := false) (dsimp := false) only [slots, List.length_append, List.length_map, ↓optK_some, ↓rwK_mk_, ↓nthK_H, ↓nthH_zero, ↓aw_block, ↓aw_reg, ↓Qblk_n, ↓ops_nil, ↓ops_cons, ↓eval_tmp, ↓put_some, ↓put_none, ↓dK_d, ↓ldK_p, ↓op_move, ↓op_assign, ↓op_load, ↓op_build, ↓op_append, ↓op_store, ↓allD_nil, ↓allD_cons, ↓setBox_mk, ↓app_mk, ↓st_bx, ↓row_sz, ↓row_xs, kill_d, kill_j, kill_p, kill_o, ↓cells_c, ↓cells_s, ↓vcells_c, ↓vcells_j, ↓vcells_o, ↓one_i, ↓vone_o, ↓st_p, ↓ap_, ↓ap_o, ↓src_l, ↓bs_, ↓op_bs, ↓bsL_f, ↓stored_mk, ↓sl_nil, ↓sl_cons, ↓st_store_t, ↓sT_move, ↓sT_load, ↓sT_build, ↓sT_bs, ↓sT_call, ↓beq_some, ↓vsz_agg, ↓inO_1, ↓fm_nil, ↓fm_cons, ↓Qn_n, ↓Qrd_n, ↓back_mk, ↓ty3, ↓ty22, ↓sl22, ↓ty35, ↓zb35, ↓bd35, List.getD_cons_zero, List.getD_cons_succ, List.set_cons_zero, List.set_cons_succ, List.cons_append, List.nil_append, List.map_cons, List.map_nil, List.length_cons, List.length_nil, List.length_map, List.all_cons, List.all_nil, Bool.true_and, Bool.and_self, Bool.or_false, Nat.reduceAdd, Nat.reduceSub, Nat.reduceMul, Nat.zero_add, List.replicate, evK_go, reduceIte, decide_false, Nat.reduceEqDiff, Nat.reduceLT, and_self, true_and, Int.zero_add, List.drop_zero, List.foldl_cons, List.foldl_nil]
          refine ⟨by decide, rfl, ⟨fun _ => trivial, by omega, by omega⟩, P ++ [c], by simp, ?_⟩
          refine Wkn.of [0, 1, 2] [some 0] ?_
          simp (implicitDefEqProofs := false) (dsimp := false) only [List.map_append, List.length_append, List.append_assoc, lnN, Nat.add_assoc, ↓vcells_c, ↓vcells_l, ↓vcells_o, List.getD_cons_zero, List.getD_cons_succ, List.map_cons, List.map_nil, List.length_cons, List.length_nil, Bool.and_self, Nat.reduceAdd, Nat.reduceSub, Nat.reduceMul, Nat.zero_add, evK_go, reduceIte, Nat.reduceEqDiff, Nat.reduceLT, and_self, Int.zero_add, slots, wkL_nil, wkL_cons, wkB_nil, wkB_cons, wkR_nil, wkR_some, wkV_j, wkV_d, wkV_o, wkV_p, frz_d, oK_zs, pK_z, pK_s, reduceCtorEq]
        · rintro P hP
          obtain rfl : pts (fewB m L k) = P := ofNat_inj hP
          simp (implicitDefEqProofs := false) (dsimp := false) only [slots, ↓aw_reg, ↓Qseq_n, ↓Qblk_n, ↓ops_nil, ↓ops_cons, ↓eval_tmp, ↓eval_int, ↓put_some, ↓binE_i, ↓bi_add, ↓in_i64, ↓op_move, ↓op_bin, List.getD_cons_zero, List.getD_cons_succ, List.set_cons_zero, List.set_cons_succ, Nat.reduceAdd, Nat.reduceSub, Nat.reduceMul, List.replicate, evK_go, reduceIte, Nat.reduceEqDiff, Nat.reduceLT, List.foldl_cons, List.foldl_nil]
          refine ⟨by omega, k + 1, by omega, by omega, ?_⟩
          refine Wkn.of [0, 1] [some 0] ?_
          simp (implicitDefEqProofs := false) (dsimp := false) only [fewK_succ, List.length_append, List.length_map, ↓vcells_l, ↓vcells_o, List.getD_cons_zero, List.getD_cons_succ, List.length_cons, List.length_nil, List.length_map, Bool.and_self, Nat.reduceAdd, Nat.reduceSub, Nat.reduceMul, Nat.zero_add, evK_go, reduceIte, Nat.reduceEqDiff, Nat.reduceLT, and_self, Int.zero_add, Int.cast_ofNat_Int, Int.natCast_add, slots, wkL_nil, wkL_cons, wkB_nil, wkB_cons, wkR_nil, wkR_some, wkV_j, wkV_d, wkV_o, wkV_p, frz_d, oK_zs, pK_z, pK_s, reduceCtorEq]
    · obtain rfl : k = m := by omega
      simp (implicitDefEqProofs := false) (dsimp := false) only [eval_nilI, ↓optK_some, ↓rwK_mk_, ↓nthK_H, ↓nthH_zero, ↓aw_seq, ↓aw_exit, ↓aw_ret, ↓aw_reg, ↓Qseq_n, ↓Qseq_x, ↓Qblk_x, ↓Qret_r, ↓ops_nil, ↓ops_cons, ↓eval_tmp, ↓put_some, ↓ldK_p, ↓op_assign, ↓op_load, ↓td_d, ↓td_o, ↓ret_2, ↓row_xs, ↓vcells_o, ↓take_map, ↓ty22, List.getD_cons_zero, List.getD_cons_succ, List.set_cons_zero, List.set_cons_succ, Nat.reduceAdd, Nat.reduceSub, Nat.reduceMul, evK_go, reduceIte, decide_false, Nat.reduceEqDiff, Nat.reduceLT, Nat.lt_irrefl, List.drop_zero]
      rfl
theorem few_call (n : Int) (l : List (Int × Int)) (pure : Bool) (σ : St) (dst : Option Tmp) (K : St → Prop) : CallH Try.prog 40 [I .i64 n, .l (l.map lnD)] pure σ dst (.mk : Hid K) = OrH ((l.length < 2 ^ 62) ∧ (pure || D.flat (.t [.l ((fewR n l).map lnN), erD (topoE n l)])) = true ∧ evK (σ.put dst (.d (.t [.l ((fewR n l).map lnN), erD (topoE n l)]))) (.mk : Hid K)) (.mk : Hid (CallH Try.prog 40 [I .i64 n, .l (l.map lnD)] pure σ dst (.mk : Hid K))) := CallH.eq (few_spec n l) pure σ dst K
theorem few_callQ (n : Int) (l : List (Int × Int)) (pure : Bool) (C : V → Prop) : CallQ Try.prog 40 [I .i64 n, .l (l.map lnD)] pure (.mk : Hid C) = OrH ((l.length < 2 ^ 62) ∧ (pure || D.flat (.t [.l ((fewR n l).map lnN), erD (topoE n l)])) = true ∧ evK (V.d (.t [.l ((fewR n l).map lnN), erD (topoE n l)])) (.mk : Hid C)) (.mk : Hid (CallQ Try.prog 40 [I .i64 n, .l (l.map lnD)] pure (.mk : Hid C))) := CallQ.eq (few_spec n l) pure C
end Go.Proofs

namespace Go.Proofs
open Go.Aw
set_option linter.unusedSimpArgs false
set_option maxRecDepth 10000
def cfL : List (Int × Int) := [(0, 1), (1, 2), (0, 2)]
theorem cf1_spec  : FnD Try.prog 37 [I .i64 3, .l [.s [I .i64 0, I .i64 1], .s [I .i64 1, I .i64 2], .s [I .i64 0, I .i64 2]]] (.t [.l [.l [I .i64 1, I .i64 2], .l [I .i64 2], .l []], erD 0]) := by
  have h := call_spec 3 cfL (by decide)
  rw [show closeAll 3 cfL = [[1, 2], [2], []] by decide +kernel, show chk 3 cfL = 0 by decide +kernel] at h
  exact h
theorem cf1_call  (pure : Bool) (σ : St) (dst : Option Tmp) (K : St → Prop) : CallH Try.prog 37 [I .i64 3, .l [.s [I .i64 0, I .i64 1], .s [I .i64 1, I .i64 2], .s [I .i64 0, I .i64 2]]] pure σ dst (.mk : Hid K) = OrH ((pure || D.flat (.t [.l [.l [I .i64 1, I .i64 2], .l [I .i64 2], .l []], erD 0])) = true ∧ evK (σ.put dst (.d (.t [.l [.l [I .i64 1, I .i64 2], .l [I .i64 2], .l []], erD 0]))) (.mk : Hid K)) (.mk : Hid (CallH Try.prog 37 [I .i64 3, .l [.s [I .i64 0, I .i64 1], .s [I .i64 1, I .i64 2], .s [I .i64 0, I .i64 2]]] pure σ dst (.mk : Hid K))) := CallH.eq0 (cf1_spec ) pure σ dst K
theorem cf1_callQ  (pure : Bool) (C : V → Prop) : CallQ Try.prog 37 [I .i64 3, .l [.s [I .i64 0, I .i64 1], .s [I .i64 1, I .i64 2], .s [I .i64 0, I .i64 2]]] pure (.mk : Hid C) = OrH ((pure || D.flat (.t [.l [.l [I .i64 1, I .i64 2], .l [I .i64 2], .l []], erD 0])) = true ∧ evK (V.d (.t [.l [.l [I .i64 1, I .i64 2], .l [I .i64 2], .l []], erD 0])) (.mk : Hid C)) (.mk : Hid (CallQ Try.prog 37 [I .i64 3, .l [.s [I .i64 0, I .i64 1], .s [I .i64 1, I .i64 2], .s [I .i64 0, I .i64 2]]] pure (.mk : Hid C))) := CallQ.eq0 (cf1_spec ) pure C
theorem cf2_spec  : FnD Try.prog 40 [I .i64 3, .l [.s [I .i64 0, I .i64 1], .s [I .i64 1, I .i64 2], .s [I .i64 0, I .i64 2]]] (.t [.l [.s [I .i64 0, I .i64 1], .s [I .i64 1, I .i64 2]], erD 0]) := by
  have h := few_spec 3 cfL (by decide)
  rw [show fewR 3 cfL = [(0, 1), (1, 2)] by decide +kernel, show topoE 3 cfL = 0 by decide +kernel] at h
  exact h
theorem cf2_call  (pure : Bool) (σ : St) (dst : Option Tmp) (K : St → Prop) : CallH Try.prog 40 [I .i64 3, .l [.s [I .i64 0, I .i64 1], .s [I .i64 1, I .i64 2], .s [I .i64 0, I .i64 2]]] pure σ dst (.mk : Hid K) = OrH ((pure || D.flat (.t [.l [.s [I .i64 0, I .i64 1], .s [I .i64 1, I .i64 2]], erD 0])) = true ∧ evK (σ.put dst (.d (.t [.l [.s [I .i64 0, I .i64 1], .s [I .i64 1, I .i64 2]], erD 0]))) (.mk : Hid K)) (.mk : Hid (CallH Try.prog 40 [I .i64 3, .l [.s [I .i64 0, I .i64 1], .s [I .i64 1, I .i64 2], .s [I .i64 0, I .i64 2]]] pure σ dst (.mk : Hid K))) := CallH.eq0 (cf2_spec ) pure σ dst K
theorem cf2_callQ  (pure : Bool) (C : V → Prop) : CallQ Try.prog 40 [I .i64 3, .l [.s [I .i64 0, I .i64 1], .s [I .i64 1, I .i64 2], .s [I .i64 0, I .i64 2]]] pure (.mk : Hid C) = OrH ((pure || D.flat (.t [.l [.s [I .i64 0, I .i64 1], .s [I .i64 1, I .i64 2]], erD 0])) = true ∧ evK (V.d (.t [.l [.s [I .i64 0, I .i64 1], .s [I .i64 1, I .i64 2]], erD 0])) (.mk : Hid C)) (.mk : Hid (CallQ Try.prog 40 [I .i64 3, .l [.s [I .i64 0, I .i64 1], .s [I .i64 1, I .i64 2], .s [I .i64 0, I .i64 2]]] pure (.mk : Hid C))) := CallQ.eq0 (cf2_spec ) pure C
theorem cf3_spec  : FnD Try.prog 39 [.l [.l [I .i64 1, I .i64 2], .l [I .i64 2], .l []], .l [.l [I .i64 1, I .i64 2], .l [I .i64 2], .l []]] (Bo true) := by
  have h := erows_spec [[1, 2], [2], []] [[1, 2], [2], []] (by decide)
  exact h
theorem cf3_call  (pure : Bool) (σ : St) (dst : Option Tmp) (K : St → Prop) : CallH Try.prog 39 [.l [.l [I .i64 1, I .i64 2], .l [I .i64 2], .l []], .l [.l [I .i64 1, I .i64 2], .l [I .i64 2], .l []]] pure σ dst (.mk : Hid K) = OrH ((pure || D.flat (Bo true)) = true ∧ evK (σ.put dst (.d (Bo true))) (.mk : Hid K)) (.mk : Hid (CallH Try.prog 39 [.l [.l [I .i64 1, I .i64 2], .l [I .i64 2], .l []], .l [.l [I .i64 1, I .i64 2], .l [I .i64 2], .l []]] pure σ dst (.mk : Hid K))) := CallH.eq0 (cf3_spec ) pure σ dst K
theorem cf3_callQ  (pure : Bool) (C : V → Prop) : CallQ Try.prog 39 [.l [.l [I .i64 1, I .i64 2], .l [I .i64 2], .l []], .l [.l [I .i64 1, I .i64 2], .l [I .i64 2], .l []]] pure (.mk : Hid C) = OrH ((pure || D.flat (Bo true)) = true ∧ evK (V.d (Bo true)) (.mk : Hid C)) (.mk : Hid (CallQ Try.prog 39 [.l [.l [I .i64 1, I .i64 2], .l [I .i64 2], .l []], .l [.l [I .i64 1, I .i64 2], .l [I .i64 2], .l []]] pure (.mk : Hid C))) := CallQ.eq0 (cf3_spec ) pure C
theorem cf4_spec  : FnD Try.prog 61 [.l [.s [I .i64 0, I .i64 1], .s [I .i64 1, I .i64 2]], .l [.s [I .i64 0, I .i64 1], .s [I .i64 1, I .i64 2]]] (Bo true) := by
  have h := elines_spec [(0, 1), (1, 2)] [(0, 1), (1, 2)] (by decide)
  exact h
theorem cf4_call  (pure : Bool) (σ : St) (dst : Option Tmp) (K : St → Prop) : CallH Try.prog 61 [.l [.s [I .i64 0, I .i64 1], .s [I .i64 1, I .i64 2]], .l [.s [I .i64 0, I .i64 1], .s [I .i64 1, I .i64 2]]] pure σ dst (.mk : Hid K) = OrH ((pure || D.flat (Bo true)) = true ∧ evK (σ.put dst (.d (Bo true))) (.mk : Hid K)) (.mk : Hid (CallH Try.prog 61 [.l [.s [I .i64 0, I .i64 1], .s [I .i64 1, I .i64 2]], .l [.s [I .i64 0, I .i64 1], .s [I .i64 1, I .i64 2]]] pure σ dst (.mk : Hid K))) := CallH.eq0 (cf4_spec ) pure σ dst K
theorem cf4_callQ  (pure : Bool) (C : V → Prop) : CallQ Try.prog 61 [.l [.s [I .i64 0, I .i64 1], .s [I .i64 1, I .i64 2]], .l [.s [I .i64 0, I .i64 1], .s [I .i64 1, I .i64 2]]] pure (.mk : Hid C) = OrH ((pure || D.flat (Bo true)) = true ∧ evK (V.d (Bo true)) (.mk : Hid C)) (.mk : Hid (CallQ Try.prog 61 [.l [.s [I .i64 0, I .i64 1], .s [I .i64 1, I .i64 2]], .l [.s [I .i64 0, I .i64 1], .s [I .i64 1, I .i64 2]]] pure (.mk : Hid C))) := CallQ.eq0 (cf4_spec ) pure C
theorem cfact_spec  : FnD Try.prog 36 [] (Bo true) := by
  refine FnD.go Try.func36 rfl rfl Try.results36 Try.ntmps36 ?_
  simp (implicitDefEqProofs := false) (dsimp := false) only [↓aw_seq, ↓aw_reg, ↓Qseq_n, ↓ops_nil, ↓ops_cons, ↓eval_tmp, ↓eval_int, ↓eval_bool, ↓eval_func, ↓put_some, ↓dK_d, ↓op_move, ↓op_assign, ↓op_build, ↓op_call, isD_d, ↓fnK_f, ↓call_H, ↓callK_H, ↓allT_nil, ↓allT_cons, ↓allD_nil, ↓allD_cons, ↓td_d, ↓cells_c, ↓cells_s, ↓one_i, ↓bs_, ↓op_bs, ↓bsL_f, ↓stored_mk, ↓sl_nil, ↓sl_cons, ↓sT_assign, ↓sT_build, ↓sT_bs, ↓vsz_agg, ↓inO_3, ↓fm_nil, ↓fm_cons, ↓sl22, ↓ty35, ↓zb35, ↓bd35, List.getD_cons_zero, List.getD_cons_succ, List.set_cons_zero, List.set_cons_succ, List.cons_append, List.nil_append, List.append_nil, List.map_cons, List.map_nil, List.length_cons, List.length_nil, List.all_cons, List.all_nil, Bool.true_and, Bool.and_self, Bool.or_false, Nat.reduceAdd, Nat.reduceSub, Nat.reduceMul, Nat.zero_add, List.replicate, evK_go, reduceIte, Nat.reduceEqDiff, Nat.reduceLT, and_self, true_and, Int.zero_add]
  simp (implicitDefEqProofs := false) (dsimp := false) only [cf1_call, cf2_call, cf3_call, cf4_call, eval_nilI, ↓er_eql, ↓cdK_true, ↓gdK_t, ↓gval_mk, ↓gvL_zero, ↓gvL_succ, ↓nthK_H, ↓nthH_zero, ↓nthH_succ, ↓aw_seq, ↓aw_ret, ↓aw_reg, ↓Qseq_n, ↓Qret_r, ↓ops_nil, ↓ops_cons, ↓ops_guard, ↓eval_tmp, ↓eval_int, ↓eval_func, ↓put_some, ↓bK_b, ↓dK_d, ↓tK_t, ↓op_move, ↓op_assign, ↓op_pick, ↓op_bin, ↓op_extract, ↓op_build, ↓op_call, ↓orH_T, isD_d, ↓fnK_f, ↓call_H, ↓callK_H, ↓allT_nil, ↓allT_cons, ↓allD_nil, ↓allD_cons, ↓td_d, ↓ret_1, ↓st_tm, ↓cells_c, ↓cells_s, ↓cells_l, ↓one_i, ↓one_l, ↓bs_, ↓op_bs, ↓bsL_f, ↓stored_mk, ↓sl_nil, ↓sl_cons, ↓sT_move, ↓sT_assign, ↓sT_pick, ↓sT_bin, ↓sT_build, ↓sT_bs, ↓sT_call, ↓vsz_int, ↓vsz_slice, ↓vsz_agg, ↓inO_1, ↓inO_2, ↓inO_3, ↓fm_nil, ↓fm_cons, ↓ty3, ↓zb3, ↓sl22, ↓ty28, ↓sl28, ↓zb28, ↓ty35, ↓zb35, ↓bd35, ↓sl44, List.getD_cons_zero, List.getD_cons_succ, List.set_cons_zero, List.set_cons_succ, List.cons_append, List.nil_append, List.append_nil, List.map_cons, List.map_nil, List.length_cons, List.length_nil, List.all_cons, List.all_nil, Bool.and_true, Bool.true_and, Bool.and_self, Bool.true_or, Bool.or_false, Nat.reduceAdd, Nat.reduceSub, Nat.reduceMul, Nat.zero_add, evK_go, reduceIte, decide_true, Nat.reduceEqDiff, Nat.reduceLT, and_self, true_and, and_true, Int.zero_add]
  exact ⟨⟨rfl, by decide⟩, OrH.l (OrH.l (OrH.l (OrH.l ⟨by decide, by decide, ⟨rfl, by decide⟩, by decide, OrH.l (OrH.l ⟨rfl, by decide⟩)⟩)))⟩
theorem cfact_call  (pure : Bool) (σ : St) (dst : Option Tmp) (K : St → Prop) : CallH Try.prog 36 [] pure σ dst (.mk : Hid K) = OrH ((pure || D.flat (Bo true)) = true ∧ evK (σ.put dst (.d (Bo true))) (.mk : Hid K)) (.mk : Hid (CallH Try.prog 36 [] pure σ dst (.mk : Hid K))) := CallH.eq0 (cfact_spec ) pure σ dst K
theorem cfact_callQ  (pure : Bool) (C : V → Prop) : CallQ Try.prog 36 [] pure (.mk : Hid C) = OrH ((pure || D.flat (Bo true)) = true ∧ evK (V.d (Bo true)) (.mk : Hid C)) (.mk : Hid (CallQ Try.prog 36 [] pure (.mk : Hid C))) := CallQ.eq0 (cfact_spec ) pure C
end Go.Proofs

namespace Go.Proofs
open Go.Aw
set_option linter.unusedSimpArgs false
set_option maxRecDepth 10000
/-- What is known of where ways go. -/
structure CW (n : Int) (l : List (Int × Int)) (M : List (List Int)) (m : Nat) : Prop where
  n0 : n = (m : Int)
  hi : m ≤ 8
  llen : l.length ≤ 24
  len : M.length = m
  sz : ∀ i : Nat, (M.getD i default).length ≤ 64
  line : ∀ p ∈ l, ∃ x y : Nat, p = ((x : Int), (y : Int)) ∧ x < m ∧ y < m ∧ x ≠ y ∧ (y : Int) ∈ M.getD x default
  pt : ∀ (a : Nat) (b : Int), b ∈ M.getD a default → ∃ c : Nat, b = (c : Int) ∧ c < m ∧ a < m
  tr : ∀ (a b : Nat) (c : Int), (b : Int) ∈ M.getD a default → c ∈ M.getD b default → c ∈ M.getD a default
theorem closeW {n : Int} {l : List (Int × Int)} (hc : chk n l = 0) : CW n l (closeAll n l) n.toNat := by
  have ok := chk_ok hc
  have e : closeAll n l = (war n.toNat (natL l)).map ptsI := if_pos hc
  have hk : ∀ (i : Nat) (j : Int), j ∈ (closeAll n l).getD i default ↔ ∃ c : Nat, j = (c : Int) ∧ Path1 (natL l) i c := fun i j => by
    rw [e, mapP_get]
    constructor
    · intro h
      obtain ⟨c, hc1, rfl⟩ := List.mem_map.1 h
      exact ⟨c, rfl, (war_bit ok.good _ _).1 ((pts_mem _ _).1 hc1).2⟩
    · rintro ⟨c, rfl, h⟩
      have := (h.lt ok.good).2
      have := ok.hi
      exact (ptsI_mem _ _).2 ⟨by omega, (war_bit ok.good _ _).2 h⟩
  refine ⟨ok.n0, ok.hi, ok.len, by rw [e, List.length_map]; exact war_len ok.good, fun i => by rw [e, mapP_get]; exact ptsI_len _, fun p hp => ?_, fun a b hb => ?_, fun a b c hb hc => ?_⟩
  · have h1 := ok.rng p hp
    have h2 : natP p ∈ natL l := List.mem_map.2 ⟨p, hp, rfl⟩
    have h3 := ok.good _ h2
    refine ⟨p.1.toNat, p.2.toNat, ?_, h3.1, h3.2, ok.ne _ h2, ?_⟩
    · rw [Int.toNat_of_nonneg h1.1, Int.toNat_of_nonneg h1.2]
    · exact (hk _ _).2 ⟨_, rfl, p.2.toNat, h2, .refl⟩
  · obtain ⟨c, rfl, h⟩ := (hk _ _).1 hb
    have := h.lt ok.good
    exact ⟨c, rfl, this.2, this.1⟩
  · obtain ⟨x, hx, h1⟩ := (hk _ _).1 hb
    obtain ⟨y, rfl, h2⟩ := (hk _ _).1 hc
    cases Int.ofNat_inj.1 hx
    exact (hk _ _).2 ⟨y, rfl, h1.trans h2.path⟩
theorem closeW_more {n : Int} {l : List (Int × Int)} (hc : chk n l = 0) {a b : Nat} (hb : (b : Int) ∈ (closeAll n l).getD a default) (hab : a ≠ b) (h24 : l.length < 24) :
    chk n (l ++ [((a : Int), (b : Int))]) = 0 ∧ closeAll n (l ++ [((a : Int), (b : Int))]) = closeAll n l := by
  have ok := chk_ok hc
  have cw := closeW hc
  obtain ⟨c, h1, h2, h3⟩ := cw.pt a b hb
  cases Int.ofNat_inj.1 h1
  have n0 := ok.n0
  have h0 : chk n (l ++ [((a : Int), (b : Int))]) = 0 := by
    rw [chk_iff] at hc ⊢
    refine ⟨hc.1, by simp; omega, fun p hp => ?_⟩
    rcases List.mem_append.1 hp with hp | hp
    · exact hc.2.2 p hp
    · rw [List.mem_singleton.1 hp, lineErr_iff]
      exact ⟨⟨by simp, by simp; omega⟩, ⟨by simp, by simp; omega⟩, by simp; omega⟩
  refine ⟨h0, ?_⟩
  have ok2 := chk_ok h0
  have hb' := hb
  unfold closeAll
  rw [if_pos h0, if_pos hc]
  have e : natL (l ++ [((a : Int), (b : Int))]) = natL l ++ [(a, b)] := by simp [natL, natP]
  have hg2 := ok2.good
  rw [e] at hg2 ⊢
  have hp : Path1 (natL l) a b := by
    have e : closeAll n l = (war n.toNat (natL l)).map ptsI := if_pos hc
    rw [e, mapP_get] at hb
    exact (war_bit ok.good _ _).1 ((ptsI_mem _ _).1 hb).2
  have hw : war n.toNat (natL l ++ [(a, b)]) = war n.toNat (natL l) := by
    refine List.ext_getElem (by rw [war_len hg2, war_len ok.good]) fun i h1 h2 => ?_
    apply bits_eq
    intro j
    have g1 := war_bit hg2 i j
    have g2 := war_bit ok.good i j
    rw [List.getD_eq_getElem?_getD, List.getElem?_eq_getElem h1, Option.getD_some] at g1
    rw [List.getD_eq_getElem?_getD, List.getElem?_eq_getElem h2, Option.getD_some] at g2
    rw [Bool.eq_iff_iff, g1, g2]
    exact path1_more hp
  rw [hw]
theorem lCloseWays_spec (n : Int) (l : List (Int × Int)) (_hn : -9223372036854775808 ≤ n ∧ n ≤ 9223372036854775807) (hpre : l.length < 2 ^ 43) : FnD Try.prog 7 [I .i64 n, .l (l.map lnD)] (Bo true) := by
  have hl62 : l.length < 2 ^ 62 := by omega
  refine FnD.go Try.func7 rfl rfl Try.results7 Try.ntmps7 ?_
  simp (implicitDefEqProofs := false) (dsimp := false) only [↓aw_seq, ↓aw_reg, ↓Qseq_n, ↓ops_nil, ↓ops_cons, ↓eval_bool, ↓eval_func, ↓put_some, ↓op_assign, ↓op_call, isD_d, ↓fnK_f, ↓call_H, ↓callK_H, ↓allT_nil, ↓td_d, List.set_cons_zero, List.set_cons_succ, List.cons_append, List.nil_append, List.append_nil, List.map_cons, List.map_nil, List.length_cons, List.length_nil, List.all_nil, Bool.and_self, Nat.reduceAdd, Nat.reduceSub, Nat.reduceMul, Nat.zero_add, List.replicate, evK_go, reduceIte, Nat.reduceEqDiff, Nat.reduceLT, and_self, Int.zero_add]
  simp (implicitDefEqProofs := false) (dsimp := false) only [cfact_call, call_call, hl62, eval_nilI, ↓er_neq, ↓cdK_false, ↓cdK_not, ↓nthK_H, ↓nthH_zero, ↓nthH_succ, ↓aw_cond, ↓aw_seq, ↓aw_skip, ↓aw_reg, ↓Qseq_n, ↓ops_nil, ↓ops_cons, ↓eval_tmp, ↓eval_func, ↓put_some, ↓bK_b, ↓tK_t, ↓op_move, ↓op_assign, ↓op_bin, ↓op_not, ↓op_extract, ↓op_call, isD_d, ↓fnK_f, ↓call_H, ↓callK_H, ↓allT_nil, ↓allT_cons, ↓td_d, List.getD_cons_zero, List.getD_cons_succ, List.set_cons_zero, List.set_cons_succ, List.append_nil, List.all_cons, List.all_nil, Bool.true_and, Bool.and_self, Bool.true_or, Nat.reduceAdd, Nat.reduceSub, Nat.reduceMul, evK_go, reduceIte, Bool.not_true, Nat.reduceEqDiff, Nat.reduceLT, and_self, true_and]
  refine OrH.l (OrH.l (OrH.l (OrH.l (cdK_dec (fun hc => ?_) (fun hc => ?_)))))
  rotate_left
  · have e1 : closeAll n l = [] := if_neg hc
    simp (implicitDefEqProofs := false) (dsimp := false) only [e1, ↓aw_seq, ↓aw_ret, ↓aw_reg, ↓Qseq_n, ↓Qseq_r, ↓Qret_r, ↓ops_nil, ↓ops_cons, ↓eval_tmp, ↓eval_int, ↓put_some, ↓lenK_l, ↓binE_i, ↓bi_eql, ↓op_move, ↓op_assign, ↓op_bin, ↓op_len, ↓td_d, ↓ret_1, ↓sl44, List.getD_cons_zero, List.getD_cons_succ, List.set_cons_zero, List.set_cons_succ, List.map_nil, List.length_nil, Nat.reduceAdd, Nat.reduceSub, Nat.reduceMul, evK_go, reduceIte, decide_true, Nat.reduceEqDiff, Nat.reduceLT, Int.cast_ofNat_Int]
  have cw := closeW hc
  have more : ∀ a b : Nat, (b : Int) ∈ (closeAll n l).getD a default → a ≠ b → l.length < 24 → chk n (l ++ [((a : Int), (b : Int))]) = 0 ∧ closeAll n (l ++ [((a : Int), (b : Int))]) = closeAll n l := fun a b h1 h2 h3 => closeW_more hc h1 h2 h3
  generalize hM : closeAll n l = M at cw more ⊢
  generalize n.toNat = m at cw
  have e0 := cw.n0
  have h8 := cw.hi
  have hML : ((M.length : Nat) : Int) = n := by rw [cw.len, e0]
  simp (implicitDefEqProofs := false) (dsimp := false) only [lines_call, hc, hl62, hML, ↓cdK_false, ↓gdK_f, ↓gval_mk, ↓gvL_zero, ↓gvL_succ, ↓aw_cond, ↓aw_seq, ↓aw_block, ↓aw_skip, ↓aw_loop, ↓aw_reg, ↓Qseq_n, ↓ops_nil, ↓ops_cons, ↓ops_guard, ↓eval_tmp, ↓eval_int, ↓eval_func, ↓put_some, ↓bK_b, ↓lenK_l, ↓binE_i, ↓bi_neq, ↓op_move, ↓op_assign, ↓op_pick, ↓op_bin, ↓op_len, ↓op_call, isD_d, ↓fnK_f, ↓call_H, ↓callK_H, ↓allT_nil, ↓allT_cons, ↓td_d, ↓st_tm, ↓sl44, List.getD_cons_zero, List.getD_cons_succ, List.set_cons_zero, List.set_cons_succ, List.append_nil, List.length_map, List.all_cons, List.all_nil, Bool.true_and, Bool.and_self, Bool.true_or, Nat.reduceAdd, Nat.reduceSub, Nat.reduceMul, evK_go, reduceIte, decide_true, Bool.not_true, Nat.reduceEqDiff, Nat.reduceLT, and_self, true_and]
  refine OrH.l (OrH.l ?_)
  refine loopW (fun k : Nat => { tm := slots 139 [(0, .d (I .i64 n)), (1, .d (.l (l.map lnD))), (6, .d (.l (M.map liD))), (8, .d (I .i64 k))], bx := [], rw := [] })
    (fun k => k ≤ l.length) (fun k => l.length - k) 0 (by simp) ?_ ?_
  · refine Wkn.of [] [] ?_
    simp (implicitDefEqProofs := false) (dsimp := false) only [List.set_cons_zero, List.set_cons_succ, Bool.and_self, Nat.reduceAdd, Nat.reduceSub, Nat.reduceMul, List.replicate, evK_go, reduceIte, Nat.reduceEqDiff, Nat.reduceLT, and_self, List.foldl_cons, List.foldl_nil, Int.cast_ofNat_Int, slots, wkL_nil, wkL_cons, wkB_nil, wkR_nil, wkV_j, wkV_d, frz_d, reduceCtorEq]
  · intro k hk
    simp (implicitDefEqProofs := false) (dsimp := false) only [slots, ↓aw_cond, ↓aw_seq, ↓aw_reg, ↓Qseq_n, ↓ops_nil, ↓ops_cons, ↓eval_tmp, ↓put_some, ↓bK_b, ↓lenK_l, ↓binE_i, ↓bi_lss, ↓op_move, ↓op_bin, ↓op_len, ↓sl22, List.getD_cons_zero, List.getD_cons_succ, List.set_cons_zero, List.set_cons_succ, List.length_map, Nat.reduceAdd, Nat.reduceSub, Nat.reduceMul, List.replicate, evK_go, reduceIte, Nat.reduceEqDiff, Nat.reduceLT, List.foldl_cons, List.foldl_nil, Int.ofNat_lt]
    refine cdK_dec (fun h => ?_) (fun h => ?_)
    · obtain ⟨x, y, hxy, hx, hy, hne, hmem⟩ := cw.line _ (getD_mem h)
      have hx' : x < M.length := by rw [cw.len]; exact hx
      have hs := cw.sz x
      have hs' : (M.getD x default).length < 2 ^ 62 := by omega
      simp (implicitDefEqProofs := false) (dsimp := false) only [h, lnD, hxy, hx', liD, hasR_callQ, hs', hmem, ↓cdK_false, ↓atK_H, ↓atH_map, ↓aw_cond, ↓aw_seq, ↓aw_block, ↓aw_skip, ↓aw_reg, ↓aw_draw, ↓Qseq_n, ↓Qblk_n, ↓ops_nil, ↓ops_cons, ↓eval_tmp, ↓eval_int, ↓eval_func, ↓put_some, ↓bK_b, ↓iK_i, ↓ev_move, ↓ev_load, ↓ev_not, ↓ev_fa, ↓ev_ia, ↓binE_i, ↓bi_add, ↓in_i64, ↓ldK_q, ↓faK_q, ↓iaK_l, ↓op_move, ↓op_assign, ↓op_bin, isD_d, ↓fnK_f, ↓callKQ_H, ↓allT_nil, ↓allT_cons, ↓td_d, ↓draw_H, ↓h_nil, ↓h_cons, ↓ldH_n, ↓q_call, ↓q_move, ↓q_load, ↓q_un, ↓q_fa, ↓q_ia, ↓il_move, ↓il_load, ↓il_un, ↓il_fa, ↓il_ia, ↓il_call, ↓cells_s, ↓cells_l, ↓hd_cons, ↓ty3, ↓sl22, ↓ty28, ↓ty35, ↓fd35_0, ↓fd35_1, ↓sl44, List.getD_cons_zero, List.getD_cons_succ, List.set_cons_zero, List.set_cons_succ, List.append_nil, List.length_cons, List.length_nil, List.all_cons, List.all_nil, Bool.true_and, Bool.and_self, Bool.true_or, Nat.reduceAdd, Nat.reduceSub, Nat.reduceMul, Nat.zero_add, Int.toNat_natCast, evK_go, reduceIte, decide_true, Bool.not_true, Nat.reduceEqDiff, Nat.reduceLT, and_self, true_and, Int.zero_add, List.drop_zero, List.drop_succ_cons, Int.natCast_nonneg]
      refine OrH.l ⟨DrawH.of follows_mixed (by kernel_rfl), ?_⟩
      (repeat refine OrH.l ?_)
      refine ⟨by omega, k + 1, by omega, by omega, ?_⟩
      refine Wkn.of [] [] ?_; simp (implicitDefEqProofs := false) (dsimp := false) only [List.set_cons_zero, List.set_cons_succ, Bool.and_self, Nat.reduceAdd, Nat.reduceSub, Nat.reduceMul, List.replicate, evK_go, reduceIte, Nat.reduceEqDiff, Nat.reduceLT, and_self, List.foldl_cons, List.foldl_nil, Int.cast_ofNat_Int, Int.natCast_add, slots, wkL_nil, wkL_cons, wkB_nil, wkR_nil, wkV_j, wkV_d, frz_d, reduceCtorEq]
    · simp (implicitDefEqProofs := false) (dsimp := false) only [↓aw_seq, ↓aw_block, ↓aw_exit, ↓aw_loop, ↓aw_reg, ↓Qseq_n, ↓Qseq_x, ↓Qblk_x, ↓ops_nil, ↓ops_cons, ↓eval_int, ↓put_some, ↓op_assign, List.set_cons_zero, List.set_cons_succ, Nat.reduceAdd, Nat.reduceSub, Nat.reduceMul, evK_go, reduceIte, Nat.reduceEqDiff, Nat.reduceLT]
      refine loopW (fun a : Nat => { tm := slots 139 [(0, .d (I .i64 n)), (1, .d (.l (l.map lnD))), (6, .d (.l (M.map liD))), (9, .d (I .i64 a))], bx := [], rw := [] })
        (fun a => a ≤ m) (fun a => m - a) 0 (by simp) ?_ ?_
      · refine Wkn.of [] [] ?_; simp (implicitDefEqProofs := false) (dsimp := false) only [List.set_cons_zero, List.set_cons_succ, Bool.and_self, Nat.reduceAdd, Nat.reduceSub, Nat.reduceMul, List.replicate, evK_go, reduceIte, Nat.reduceEqDiff, Nat.reduceLT, and_self, List.foldl_cons, List.foldl_nil, Int.cast_ofNat_Int, slots, wkL_nil, wkL_cons, wkB_nil, wkR_nil, wkV_j, wkV_d, frz_d, reduceCtorEq]
      · intro a ha
        simp (implicitDefEqProofs := false) (dsimp := false) only [slots, ↓aw_cond, ↓aw_seq, ↓aw_reg, ↓Qseq_n, ↓ops_nil, ↓ops_cons, ↓eval_tmp, ↓put_some, ↓bK_b, ↓binE_i, ↓bi_lss, ↓op_move, ↓op_bin, List.getD_cons_zero, List.getD_cons_succ, List.set_cons_zero, List.set_cons_succ, Nat.reduceAdd, Nat.reduceSub, Nat.reduceMul, List.replicate, evK_go, reduceIte, Nat.reduceEqDiff, Nat.reduceLT, List.foldl_cons, List.foldl_nil]
        refine cdK_dec (fun h1 => ?_) (fun h1 => ?_)
        · have ham : a < m := by omega
          have haM : a < M.length := by rw [cw.len]; exact ham
          have hsz := cw.sz a
          simp (implicitDefEqProofs := false) (dsimp := false) only [↓aw_seq, ↓aw_block, ↓aw_skip, ↓aw_loop, ↓aw_reg, ↓Qseq_n, ↓ops_nil, ↓ops_cons, ↓eval_int, ↓put_some, ↓op_assign, List.set_cons_zero, List.set_cons_succ, Nat.reduceAdd, Nat.reduceSub, Nat.reduceMul, evK_go, reduceIte, Nat.reduceEqDiff, Nat.reduceLT]
          refine loopW (fun i : Nat => { tm := slots 139 [(0, .d (I .i64 n)), (1, .d (.l (l.map lnD))), (6, .d (.l (M.map liD))), (9, .d (I .i64 a)), (10, .d (I .i64 i))], bx := [], rw := [] })
            (fun i => i ≤ (M.getD a default).length) (fun i => (M.getD a default).length - i) 0 (by simp) ?_ ?_
          · refine Wkn.of [] [] ?_; simp (implicitDefEqProofs := false) (dsimp := false) only [List.set_cons_zero, List.set_cons_succ, Bool.and_self, Nat.reduceAdd, Nat.reduceSub, Nat.reduceMul, List.replicate, evK_go, reduceIte, Nat.reduceEqDiff, Nat.reduceLT, and_self, List.foldl_cons, List.foldl_nil, Int.cast_ofNat_Int, slots, wkL_nil, wkL_cons, wkB_nil, wkR_nil, wkV_j, wkV_d, frz_d, reduceCtorEq]
          · intro i hi
            simp (implicitDefEqProofs := false) (dsimp := false) only [slots, haM, liD, ↓atK_H, ↓atH_map, ↓aw_cond, ↓aw_seq, ↓aw_reg, ↓Qseq_n, ↓ops_nil, ↓ops_cons, ↓eval_tmp, ↓put_some, ↓bK_b, ↓iK_i, ↓lenK_l, ↓binE_i, ↓bi_lss, ↓ldK_q, ↓iaK_l, ↓op_move, ↓op_load, ↓op_bin, ↓op_ia, ↓op_len, ↓cells_l, ↓hd_cons, ↓ty28, ↓sl28, ↓sl44, List.getD_cons_zero, List.getD_cons_succ, List.set_cons_zero, List.set_cons_succ, List.length_cons, List.length_nil, List.length_map, Bool.true_and, Nat.reduceAdd, Nat.reduceSub, Nat.reduceMul, Nat.zero_add, Int.toNat_natCast, List.replicate, evK_go, reduceIte, Nat.reduceEqDiff, Nat.reduceLT, true_and, Int.zero_add, List.foldl_cons, List.foldl_nil, Int.ofNat_lt, Int.natCast_nonneg]
            refine cdK_dec (fun h2 => ?_) (fun h2 => ?_)
            · have hb := getD_mem h2
              obtain ⟨b, hb1, hb2, _⟩ := cw.pt a _ hb
              have hin : inB (b : Int) 0 (n - 1) = true := inB_iff.2 ⟨by omega, by omega⟩
              have hbM : b < M.length := by rw [cw.len]; exact hb2
              have hszb := cw.sz b
              rw [hb1] at hb
              simp (implicitDefEqProofs := false) (dsimp := false) only [haM, h2, hb1, liD, in2_call, hin, ↓cdK_false, ↓atK_H, ↓atH_map, ↓aw_cond, ↓aw_seq, ↓aw_block, ↓aw_skip, ↓aw_loop, ↓aw_reg, ↓Qseq_n, ↓ops_nil, ↓ops_cons, ↓eval_tmp, ↓eval_int, ↓eval_func, ↓put_some, ↓bK_b, ↓iK_i, ↓binE_i, ↓bi_sub, ↓in_i64, ↓ldK_q, ↓iaK_l, ↓op_move, ↓op_assign, ↓op_load, ↓op_bin, ↓op_not, ↓op_ia, ↓op_call, isD_d, ↓fnK_f, ↓call_H, ↓callK_H, ↓allT_nil, ↓allT_cons, ↓td_d, ↓cells_c, ↓cells_l, ↓hd_cons, ↓ty3, ↓ty28, ↓sl28, ↓sl44, List.getD_cons_zero, List.getD_cons_succ, List.set_cons_zero, List.set_cons_succ, List.append_nil, List.length_cons, List.length_nil, List.all_cons, List.all_nil, Bool.true_and, Bool.and_self, Bool.true_or, Nat.reduceAdd, Nat.reduceSub, Nat.reduceMul, Nat.zero_add, Int.toNat_natCast, evK_go, reduceIte, decide_true, Bool.not_true, Nat.reduceEqDiff, Nat.reduceLT, and_self, true_and, Int.zero_add, Int.natCast_nonneg]
              refine ⟨by omega, OrH.l (OrH.l ?_)⟩
              refine loopW (fun j : Nat => { tm := slots 139 [(0, .d (I .i64 n)), (1, .d (.l (l.map lnD))), (6, .d (.l (M.map liD))), (9, .d (I .i64 a)), (10, .d (I .i64 i)), (11, .d (I .i64 b)), (12, .d (I .i64 j))], bx := [], rw := [] })
                (fun j => j ≤ (M.getD b default).length) (fun j => (M.getD b default).length - j) 0 (by simp) ?_ ?_
              · refine Wkn.of [] [] ?_; simp (implicitDefEqProofs := false) (dsimp := false) only [List.set_cons_zero, List.set_cons_succ, Bool.and_self, Nat.reduceAdd, Nat.reduceSub, Nat.reduceMul, List.replicate, evK_go, reduceIte, Nat.reduceEqDiff, Nat.reduceLT, and_self, List.foldl_cons, List.foldl_nil, Int.cast_ofNat_Int, slots, wkL_nil, wkL_cons, wkB_nil, wkR_nil, wkV_j, wkV_d, frz_d, reduceCtorEq]
              · intro j hj
                simp (implicitDefEqProofs := false) (dsimp := false) only [slots, hbM, liD, ↓atK_H, ↓atH_map, ↓aw_cond, ↓aw_seq, ↓aw_reg, ↓Qseq_n, ↓ops_nil, ↓ops_cons, ↓eval_tmp, ↓put_some, ↓bK_b, ↓iK_i, ↓lenK_l, ↓binE_i, ↓bi_lss, ↓ldK_q, ↓iaK_l, ↓op_move, ↓op_load, ↓op_bin, ↓op_ia, ↓op_len, ↓cells_l, ↓hd_cons, ↓ty28, ↓sl28, ↓sl44, List.getD_cons_zero, List.getD_cons_succ, List.set_cons_zero, List.set_cons_succ, List.length_cons, List.length_nil, List.length_map, Bool.true_and, Nat.reduceAdd, Nat.reduceSub, Nat.reduceMul, Nat.zero_add, Int.toNat_natCast, List.replicate, evK_go, reduceIte, Nat.reduceEqDiff, Nat.reduceLT, true_and, Int.zero_add, List.foldl_cons, List.foldl_nil, Int.ofNat_lt, Int.natCast_nonneg]
                refine cdK_dec (fun h3 => ?_) (fun h3 => ?_)
                · have hjm := cw.tr a b _ hb (getD_mem h3)
                  have hs1 : (M.getD a default).length < 2 ^ 62 := by omega
                  simp (implicitDefEqProofs := false) (dsimp := false) only [haM, hbM, h3, liD, hasR_callQ, hs1, hjm, ↓cdK_false, ↓atK_H, ↓atH_map, ↓aw_cond, ↓aw_seq, ↓aw_block, ↓aw_skip, ↓aw_reg, ↓aw_draw, ↓Qseq_n, ↓Qblk_n, ↓ops_nil, ↓ops_cons, ↓eval_tmp, ↓eval_int, ↓eval_func, ↓put_some, ↓bK_b, ↓iK_i, ↓ev_move, ↓ev_load, ↓ev_not, ↓ev_ia, ↓binE_i, ↓bi_add, ↓in_i64, ↓ldK_q, ↓iaK_l, ↓op_move, ↓op_assign, ↓op_bin, isD_d, ↓fnK_f, ↓callKQ_H, ↓allT_nil, ↓allT_cons, ↓td_d, ↓draw_H, ↓h_nil, ↓h_cons, ↓ldH_n, ↓q_call, ↓q_move, ↓q_load, ↓q_un, ↓q_ia, ↓il_move, ↓il_load, ↓il_un, ↓il_ia, ↓il_call, ↓cells_c, ↓cells_l, ↓hd_cons, ↓ty3, ↓ty28, ↓sl28, ↓sl44, List.getD_cons_zero, List.getD_cons_succ, List.set_cons_zero, List.set_cons_succ, List.append_nil, List.length_cons, List.length_nil, List.all_cons, List.all_nil, Bool.true_and, Bool.and_self, Bool.true_or, Nat.reduceAdd, Nat.reduceSub, Nat.reduceMul, Nat.zero_add, Int.toNat_natCast, evK_go, reduceIte, decide_true, Bool.not_true, Nat.reduceEqDiff, Nat.reduceLT, and_self, true_and, Int.zero_add, Int.natCast_nonneg]
                  refine OrH.l ⟨DrawH.of follows_mixed (by kernel_rfl), ?_⟩
                  (repeat refine OrH.l ?_)
                  refine ⟨by omega, j + 1, by omega, by omega, ?_⟩
                  refine Wkn.of [] [] ?_; simp (implicitDefEqProofs := false) (dsimp := false) only [List.set_cons_zero, List.set_cons_succ, Bool.and_self, Nat.reduceAdd, Nat.reduceSub, Nat.reduceMul, List.replicate, evK_go, reduceIte, Nat.reduceEqDiff, Nat.reduceLT, and_self, List.foldl_cons, List.foldl_nil, Int.cast_ofNat_Int, Int.natCast_add, slots, wkL_nil, wkL_cons, wkB_nil, wkR_nil, wkV_j, wkV_d, frz_d, reduceCtorEq]
                · simp (implicitDefEqProofs := false) (dsimp := false) only [↓gdK_t, ↓gval_mk, ↓gvL_zero, ↓gvL_succ, ↓aw_seq, ↓aw_exit, ↓aw_ret, ↓aw_reg, ↓Qseq_n, ↓Qseq_x, ↓Qblk_n, ↓Qblk_x, ↓Qret_r, ↓ops_nil, ↓ops_cons, ↓ops_guard, ↓eval_tmp, ↓eval_int, ↓eval_bool, ↓put_some, ↓lenK_l, ↓binE_i, ↓bi_add, ↓bi_lss, ↓in_i64, ↓op_move, ↓op_assign, ↓op_bin, ↓op_len, ↓td_d, ↓ret_1, ↓st_tm, ↓sl22, List.getD_cons_zero, List.getD_cons_succ, List.set_cons_zero, List.set_cons_succ, List.length_map, Nat.reduceAdd, Nat.reduceSub, Nat.reduceMul, evK_go, reduceIte, Nat.reduceEqDiff, Nat.reduceLT]
                  refine cdK_dec (fun h4 => ?_) (fun h4 => ?_)
                  · simp (implicitDefEqProofs := false) (dsimp := false) only [h4, ↓cdK_true, ↓cdK_not, ↓gdK_t, ↓gval_mk, ↓gvL_zero, ↓gvL_succ, ↓aw_cond, ↓Qseq_n, ↓ops_nil, ↓ops_cons, ↓ops_guard, ↓eval_tmp, ↓put_some, ↓bK_b, ↓binE_i, ↓bi_neq, ↓op_move, ↓op_pick, ↓op_bin, ↓st_tm, List.getD_cons_zero, List.getD_cons_succ, List.set_cons_zero, List.set_cons_succ, Nat.reduceAdd, Nat.reduceSub, Nat.reduceMul, evK_go, reduceIte, decide_true, Nat.reduceEqDiff, Nat.reduceLT, Int.natCast_inj]
                    refine cdK_dec (fun h5 => ?_) (fun h5 => ?_)
                    · subst h5
                      simp (implicitDefEqProofs := false) (dsimp := false) only [↓aw_skip, ↓aw_reg, ↓Qseq_n, ↓Qblk_n, ↓ops_nil, ↓ops_cons, ↓eval_tmp, ↓eval_int, ↓put_some, ↓binE_i, ↓bi_add, ↓in_i64, ↓op_move, ↓op_assign, ↓op_bin, List.getD_cons_zero, List.getD_cons_succ, List.set_cons_zero, List.set_cons_succ, Nat.reduceAdd, Nat.reduceSub, Nat.reduceMul, evK_go, reduceIte, decide_true, Bool.not_true, Nat.reduceEqDiff, Nat.reduceLT]
                      refine ⟨by omega, i + 1, by omega, by omega, ?_⟩
                      refine Wkn.of [] [] ?_; simp (implicitDefEqProofs := false) (dsimp := false) only [List.set_cons_zero, List.set_cons_succ, Bool.and_self, Nat.reduceAdd, Nat.reduceSub, Nat.reduceMul, List.replicate, evK_go, reduceIte, Nat.reduceEqDiff, Nat.reduceLT, and_self, List.foldl_cons, List.foldl_nil, Int.cast_ofNat_Int, Int.natCast_add, slots, wkL_nil, wkL_cons, wkB_nil, wkR_nil, wkV_j, wkV_d, frz_d, reduceCtorEq]
                    · simp (implicitDefEqProofs := false) (dsimp := false) only [h5, ↓optK_some, ↓rwK_mk_, ↓aw_seq, ↓aw_reg, ↓Qseq_n, ↓ops_nil, ↓ops_cons, ↓eval_tmp, ↓eval_nil, ↓eval_func, ↓put_some, ↓dK_d, ↓op_move, ↓op_assign, ↓op_build, ↓op_append, ↓op_call, isD_d, isD_o, ↓fnK_f, ↓call_H, ↓callK_H, ↓allT_nil, ↓allT_cons, ↓allD_nil, ↓allD_cons, ↓td_d, ↓td_o, ↓addRow_mk, ↓app_mk, ↓st_rw, ↓row_sz, ↓row_xs, kill_d, kill_j, kill_nl, kill_o, ↓cells_c, ↓cells_s, ↓one_i, ↓ap_, ↓ap_nl, ↓ap_o, ↓src_l, ↓bs_, ↓op_bs, ↓bsL_f, ↓stored_mk, ↓sl_nil, ↓sl_cons, ↓sT_move, ↓sT_assign, ↓sT_extract, ↓sT_build, ↓sT_bs, ↓sT_call, ↓vsz_agg, ↓inO_1, ↓fm_nil, ↓fm_cons, ↓sl22, ↓ty35, ↓zb35, ↓bd35, List.getD_cons_zero, List.getD_cons_succ, List.set_cons_zero, List.set_cons_succ, List.cons_append, List.nil_append, List.append_nil, List.map_cons, List.map_nil, List.length_cons, List.length_nil, List.length_map, List.all_cons, List.all_nil, Bool.and_true, Bool.true_and, Bool.and_self, Bool.and_false, Bool.or_false, Nat.reduceAdd, Nat.reduceSub, Nat.reduceMul, Nat.zero_add, evK_go, reduceIte, decide_false, Bool.not_false, Nat.reduceEqDiff, Nat.reduceLT, and_self, true_and, and_true, Int.zero_add, List.drop_zero]
                      have hm62 : (l ++ [((a : Int), (b : Int))]).length < 2 ^ 62 := by simp; omega
                      obtain ⟨hc2, hM2⟩ := more a b hb h5 (by omega)
                      refine ⟨rfl, fun y hy => ?_, ⟨by omega, by omega⟩, ⟨rfl, by decide⟩, rfl, ⟨fun _ => trivial, by omega, by omega⟩, OrH.r (Loud.frz { tm := slots 139 [(0, .d (I .i64 n)), (1, .d (.l (l.map lnD))), (6, .d (.l (M.map liD))), (9, .d (I .i64 a)), (10, .d (I .i64 i)), (11, .d (I .i64 b)), (121, .d (I .i64 n)), (127, .d (.l ((l ++ [((a : Int), (b : Int))]).map lnD)))], bx := [], rw := [] } (Wkn.of [] [] ?_) ?_)⟩
                      · obtain ⟨q, _, rfl⟩ := List.mem_map.1 hy
                        exact ⟨rfl, rfl⟩
                      · have e1 : List.take (l.length + 1) (l.map lnD ++ [D.s [I .i64 a, I .i64 b]]) = (l ++ [((a : Int), (b : Int))]).map lnD := by
                          rw [List.map_append]
                          exact List.take_of_length_le (by simp)
                        simp (implicitDefEqProofs := false) (dsimp := false) only [e1, ↓optK_some, ↓row_xs, List.getD_cons_zero, List.set_cons_zero, List.set_cons_succ, Bool.and_self, Nat.reduceAdd, Nat.reduceSub, Nat.reduceMul, List.replicate, evK_go, reduceIte, Nat.reduceEqDiff, Nat.reduceLT, and_self, not_false_eq_true, List.drop_zero, List.foldl_cons, List.foldl_nil, slots, wkL_nil, wkL_cons, wkB_nil, wkR_nil, wkV_j, wkV_d, frz_d, frz_o, dl_eq, reduceCtorEq, List.not_mem_nil]
                      · have hM62 : M.length < 2 ^ 62 ∧ ∀ x ∈ M, x.length < 2 ^ 62 := by
                          refine ⟨by rw [cw.len]; omega, fun x hx => ?_⟩
                          obtain ⟨q, hq, rfl⟩ := List.mem_iff_getElem.1 hx
                          have := cw.sz q
                          rw [List.getD_eq_getElem?_getD, List.getElem?_eq_getElem hq, Option.getD_some] at this
                          omega
                        simp (implicitDefEqProofs := false) (dsimp := false) only [slots, call_call, hm62, hc2, hM2, erows_call, eval_nilI, ↓er_neq, ↓cdK_false, ↓gdK_f, ↓gval_mk, ↓gvL_zero, ↓gvL_succ, ↓nthK_H, ↓nthH_zero, ↓nthH_succ, ↓aw_cond, ↓aw_seq, ↓aw_skip, ↓aw_reg, ↓Qseq_n, ↓Qblk_n, ↓ops_nil, ↓ops_cons, ↓ops_guard, ↓eval_tmp, ↓eval_int, ↓eval_func, ↓put_some, ↓bK_b, ↓tK_t, ↓binE_i, ↓bi_add, ↓in_i64, ↓op_move, ↓op_assign, ↓op_pick, ↓op_bin, ↓op_not, ↓op_extract, ↓op_call, isD_d, ↓fnK_f, ↓call_H, ↓callK_H, ↓allT_nil, ↓allT_cons, ↓td_d, ↓st_tm, List.getD_cons_zero, List.getD_cons_succ, List.set_cons_zero, List.set_cons_succ, List.append_nil, List.all_cons, List.all_nil, Bool.true_and, Bool.and_self, Bool.true_or, Nat.reduceAdd, Nat.reduceSub, Nat.reduceMul, List.replicate, evK_go, reduceIte, decide_true, Bool.not_true, Nat.reduceEqDiff, Nat.reduceLT, and_self, true_and, List.foldl_cons, List.foldl_nil]
                        (repeat refine OrH.l ?_)
                        refine ⟨hM62, ?_⟩
                        (repeat refine OrH.l ?_)
                        refine ⟨by omega, i + 1, by omega, by omega, ?_⟩
                        refine Wkn.of [] [] ?_; simp (implicitDefEqProofs := false) (dsimp := false) only [Bool.and_self, Nat.reduceAdd, Nat.reduceSub, Nat.reduceMul, evK_go, reduceIte, Nat.reduceEqDiff, Nat.reduceLT, and_self, Int.cast_ofNat_Int, Int.natCast_add, slots, wkL_nil, wkL_cons, wkB_nil, wkR_nil, wkV_j, wkV_d, frz_d, reduceCtorEq]
                  · simp (implicitDefEqProofs := false) (dsimp := false) only [h4, ↓cdK_false, ↓gdK_t, ↓gval_mk, ↓gvL_zero, ↓gvL_succ, ↓aw_cond, ↓aw_skip, ↓aw_reg, ↓Qseq_n, ↓Qblk_n, ↓ops_nil, ↓ops_cons, ↓ops_guard, ↓eval_tmp, ↓eval_int, ↓eval_bool, ↓put_some, ↓bK_b, ↓binE_i, ↓bi_add, ↓in_i64, ↓op_move, ↓op_assign, ↓op_pick, ↓op_bin, ↓st_tm, List.getD_cons_zero, List.getD_cons_succ, List.set_cons_zero, List.set_cons_succ, Nat.reduceAdd, Nat.reduceSub, Nat.reduceMul, evK_go, reduceIte, decide_false, Nat.reduceEqDiff, Nat.reduceLT]
                    refine ⟨by omega, i + 1, by omega, by omega, ?_⟩
                    refine Wkn.of [] [] ?_; simp (implicitDefEqProofs := false) (dsimp := false) only [List.set_cons_zero, List.set_cons_succ, Bool.and_self, Nat.reduceAdd, Nat.reduceSub, Nat.reduceMul, List.replicate, evK_go, reduceIte, Nat.reduceEqDiff, Nat.reduceLT, and_self, List.foldl_cons, List.foldl_nil, Int.cast_ofNat_Int, Int.natCast_add, slots, wkL_nil, wkL_cons, wkB_nil, wkR_nil, wkV_j, wkV_d, frz_d, reduceCtorEq]
            · simp (implicitDefEqProofs := false) (dsimp := false) only [↓aw_seq, ↓aw_exit, ↓aw_ret, ↓aw_reg, ↓Qseq_n, ↓Qseq_x, ↓Qblk_n, ↓Qblk_x, ↓Qret_r, ↓ops_nil, ↓ops_cons, ↓eval_tmp, ↓eval_int, ↓eval_bool, ↓put_some, ↓binE_i, ↓bi_add, ↓in_i64, ↓op_move, ↓op_assign, ↓op_bin, ↓td_d, ↓ret_1, List.getD_cons_zero, List.getD_cons_succ, List.set_cons_zero, List.set_cons_succ, Nat.reduceAdd, Nat.reduceSub, Nat.reduceMul, evK_go, reduceIte, Nat.reduceEqDiff, Nat.reduceLT]
              refine ⟨by omega, a + 1, by omega, by omega, ?_⟩
              refine Wkn.of [] [] ?_; simp (implicitDefEqProofs := false) (dsimp := false) only [List.set_cons_zero, List.set_cons_succ, Bool.and_self, Nat.reduceAdd, Nat.reduceSub, Nat.reduceMul, List.replicate, evK_go, reduceIte, Nat.reduceEqDiff, Nat.reduceLT, and_self, List.foldl_cons, List.foldl_nil, Int.cast_ofNat_Int, Int.natCast_add, slots, wkL_nil, wkL_cons, wkB_nil, wkR_nil, wkV_j, wkV_d, frz_d, reduceCtorEq]
        · simp (implicitDefEqProofs := false) (dsimp := false) only [↓aw_seq, ↓aw_exit, ↓aw_ret, ↓aw_reg, ↓Qseq_n, ↓Qseq_x, ↓Qblk_x, ↓Qret_r, ↓ops_nil, ↓ops_cons, ↓eval_tmp, ↓eval_bool, ↓put_some, ↓op_assign, ↓td_d, ↓ret_1, List.getD_cons_zero, List.getD_cons_succ, List.set_cons_zero, List.set_cons_succ, Nat.reduceAdd, Nat.reduceSub, Nat.reduceMul, evK_go, reduceIte, Nat.reduceEqDiff, Nat.reduceLT]
end Go.Proofs

namespace Go.Proofs
open Go.Aw
set_option linter.unusedSimpArgs false
set_option maxRecDepth 10000
theorem close_mem {n : Int} {l : List (Int × Int)} (hc : chk n l = 0) (i j : Nat) : (j : Int) ∈ (closeAll n l).getD i default ↔ Path1 (natL l) i j := by
  have ok := chk_ok hc
  have e : closeAll n l = (war n.toNat (natL l)).map ptsI := if_pos hc
  rw [e, mapP_get, ptsI_mem, war_bit ok.good]
  exact ⟨fun h => h.2, fun h => ⟨by have := (h.lt ok.good).2; have := ok.hi; omega, h⟩⟩
theorem close_congr {n : Int} {l l' : List (Int × Int)} (hc : chk n l = 0) (hc' : chk n l' = 0) (h : ∀ i j, Path1 (natL l) i j ↔ Path1 (natL l') i j) : closeAll n l = closeAll n l' := by
  have ok := chk_ok hc
  have ok' := chk_ok hc'
  rw [show closeAll n l = (war n.toNat (natL l)).map ptsI from if_pos hc, show closeAll n l' = (war n.toNat (natL l')).map ptsI from if_pos hc']
  congr 1
  refine List.ext_getElem (by rw [war_len ok.good, war_len ok'.good]) fun i h1 h2 => ?_
  apply bits_eq
  intro j
  have g1 := war_bit ok.good i j
  have g2 := war_bit ok'.good i j
  rw [List.getD_eq_getElem?_getD, List.getElem?_eq_getElem h1, Option.getD_some] at g1
  rw [List.getD_eq_getElem?_getD, List.getElem?_eq_getElem h2, Option.getD_some] at g2
  rw [Bool.eq_iff_iff, g1, g2, h]
def intP (p : Nat × Nat) : Int × Int := ((p.1 : Int), (p.2 : Int))
def intL (l : List (Nat × Nat)) : List (Int × Int) := l.map intP
theorem lnN_int (l : List (Nat × Nat)) : l.map lnN = (intL l).map lnD := by unfold intL; rw [List.map_map]; rfl
theorem natL_int (l : List (Nat × Nat)) : natL (intL l) = l := by
  unfold natL intL
  rw [List.map_map]
  exact List.map_id _
theorem chk_sub {n : Int} {l l' : List (Int × Int)} (hc : chk n l = 0) (hl : l'.length ≤ 24) (h : ∀ p ∈ l', p ∈ l) : chk n l' = 0 := by
  rw [chk_iff] at hc ⊢
  exact ⟨hc.1, hl, fun p hp => hc.2.2 p (h p hp)⟩
theorem intL_sub {l : List (Int × Int)} {F : List (Nat × Nat)} (hl : ∀ p ∈ l, 0 ≤ p.1 ∧ 0 ≤ p.2) (h : ∀ p ∈ F, p ∈ natL l) : ∀ p ∈ intL F, p ∈ l := by
  intro p hp
  obtain ⟨q, hq, rfl⟩ := List.mem_map.1 hp
  obtain ⟨r, hr, rfl⟩ := List.mem_map.1 (h q hq)
  have := hl r hr
  have e : intP (natP r) = r := by
    show ((r.1.toNat : Int), (r.2.toNat : Int)) = r
    rw [Int.toNat_of_nonneg this.1, Int.toNat_of_nonneg this.2]
  rw [e]; exact hr
theorem closeM {n : Int} {l : List (Int × Int)} (hc : chk n l = 0) : (closeAll n l).length < 2 ^ 62 ∧ ∀ x ∈ closeAll n l, x.length < 2 ^ 62 := by
  have cw := closeW hc
  have h8 := cw.hi
  refine ⟨by rw [cw.len]; omega, fun x hx => ?_⟩
  obtain ⟨q, hq, rfl⟩ := List.mem_iff_getElem.1 hx
  have := cw.sz q
  rw [List.getD_eq_getElem?_getD, List.getElem?_eq_getElem hq, Option.getD_some] at this
  omega
structure FW (n : Int) (l F : List (Int × Int)) : Prop where
  chk0 : chk n l = 0
  chkF : chk n F = 0
  same : closeAll n F = closeAll n l
  len : F.length ≤ l.length
  sub : ∀ p ∈ F, p ∈ l
  need : ∀ k : Nat, k < F.length → chk n (butL F (k : Int)) = 0 ∧ closeAll n (butL F (k : Int)) ≠ closeAll n l
theorem fewW {n : Int} {l : List (Int × Int)} (h : topoE n l = 0) : FW n l (intL (fewR n l)) := by
  obtain ⟨hc, o, ho⟩ := topoE_zero h
  have ok := chk_ok hc
  have h8 := ok.hi
  have e : fewR n l = few n.toNat (natL l) := if_pos h
  rw [e]
  have ht := topo_some (by omega) ok.good ho
  have hlen : (intL (few n.toNat (natL l))).length ≤ l.length := by
    unfold intL; rw [List.length_map]
    have := few_len (n := n.toNat) (by omega) ok.good
    rw [natL_len] at this; exact this
  have hsub := intL_sub ok.rng (F := few n.toNat (natL l)) fun p hp => few_sub (by omega) ok.good hp
  have h24 := ok.len
  have hcF := chk_sub hc (by omega) hsub
  refine ⟨hc, hcF, close_congr hcF hc fun i j => by rw [natL_int]; exact few_path (by omega) ok.good ht, hlen, hsub, fun k hk => ?_⟩
  have hk' : k < (few n.toNat (natL l)).length := by simpa [intL] using hk
  have hcB : chk n (butL (intL (few n.toNat (natL l))) (k : Int)) = 0 := chk_sub hcF (by
    have := butK_len (intL (few n.toNat (natL l))) (k : Int) (intL (few n.toNat (natL l))).length
    unfold butL; omega) fun p hp => but_mem hp
  refine ⟨hcB, fun e => ?_⟩
  obtain ⟨i, j, h1, h2⟩ := few_need (by omega) ok.good hk'
  have h3 := (close_mem hc i j).2 h1
  rw [← e] at h3
  have h4 := (close_mem hcB i j).1 h3
  have e2 : natL (butL (intL (few n.toNat (natL l))) (k : Int)) = (few n.toNat (natL l)).eraseIdx k := by
    show (butL (intL (few n.toNat (natL l))) (k : Int)).map natP = _
    rw [← but_map]
    have e3 : (intL (few n.toNat (natL l))).map natP = few n.toNat (natL l) := natL_int _
    rw [e3, but_erase _ _ hk']
  rw [e2] at h4
  exact h2 h4
theorem lCloseFew_spec (n : Int) (l : List (Int × Int)) (k : Int) (_hn : -9223372036854775808 ≤ n ∧ n ≤ 9223372036854775807) (hpre : l.length < 2 ^ 43) (_hk : -9223372036854775808 ≤ k ∧ k ≤ 9223372036854775807) : FnD Try.prog 8 [I .i64 n, .l (l.map lnD), I .i64 k] (Bo true) := by
  have hl62 : l.length < 2 ^ 62 := by omega
  refine FnD.go Try.func8 rfl rfl Try.results8 Try.ntmps8 ?_
  simp (implicitDefEqProofs := false) (dsimp := false) only [↓aw_seq, ↓aw_reg, ↓Qseq_n, ↓ops_nil, ↓ops_cons, ↓eval_bool, ↓eval_func, ↓put_some, ↓op_assign, ↓op_call, isD_d, ↓fnK_f, ↓call_H, ↓callK_H, ↓allT_nil, ↓td_d, List.set_cons_zero, List.set_cons_succ, List.cons_append, List.nil_append, List.append_nil, List.map_cons, List.map_nil, List.length_cons, List.length_nil, List.all_nil, Bool.and_self, Nat.reduceAdd, Nat.reduceSub, Nat.reduceMul, Nat.zero_add, List.replicate, evK_go, reduceIte, Nat.reduceEqDiff, Nat.reduceLT, and_self, Int.zero_add]
  simp (implicitDefEqProofs := false) (dsimp := false) only [cfact_call, few_call, hl62, eval_nilI, ↓er_neq, ↓cdK_false, ↓cdK_not, ↓nthK_H, ↓nthH_zero, ↓nthH_succ, ↓aw_cond, ↓aw_seq, ↓aw_skip, ↓aw_reg, ↓Qseq_n, ↓ops_nil, ↓ops_cons, ↓eval_tmp, ↓eval_func, ↓put_some, ↓bK_b, ↓tK_t, ↓op_move, ↓op_assign, ↓op_bin, ↓op_not, ↓op_extract, ↓op_call, isD_d, ↓fnK_f, ↓call_H, ↓callK_H, ↓allT_nil, ↓allT_cons, ↓td_d, List.getD_cons_zero, List.getD_cons_succ, List.set_cons_zero, List.set_cons_succ, List.append_nil, List.all_cons, List.all_nil, Bool.true_and, Bool.and_self, Bool.true_or, Nat.reduceAdd, Nat.reduceSub, Nat.reduceMul, evK_go, reduceIte, Bool.not_true, Nat.reduceEqDiff, Nat.reduceLT, and_self, true_and]
  (repeat refine OrH.l ?_)
  refine cdK_dec (fun hc => ?_) (fun hc => ?_)
  rotate_left
  · have e1 : fewR n l = [] := if_neg hc
    simp (implicitDefEqProofs := false) (dsimp := false) only [e1, ↓aw_seq, ↓aw_ret, ↓aw_reg, ↓Qseq_n, ↓Qseq_r, ↓Qret_r, ↓ops_nil, ↓ops_cons, ↓eval_tmp, ↓eval_int, ↓put_some, ↓lenK_l, ↓binE_i, ↓bi_eql, ↓op_move, ↓op_assign, ↓op_bin, ↓op_len, ↓td_d, ↓ret_1, ↓sl22, List.getD_cons_zero, List.getD_cons_succ, List.set_cons_zero, List.set_cons_succ, List.map_nil, List.length_nil, Nat.reduceAdd, Nat.reduceSub, Nat.reduceMul, evK_go, reduceIte, decide_true, Nat.reduceEqDiff, Nat.reduceLT, Int.cast_ofNat_Int]
  have fw := fewW hc
  have hM62 := closeM fw.chk0
  rw [lnN_int]
  generalize intL (fewR n l) = F at fw ⊢
  have hF62 : F.length < 2 ^ 62 := by have := fw.len; omega
  have hFl : ¬ F.length > l.length := by have := fw.len; omega
  have h24 := fw.len
  simp (implicitDefEqProofs := false) (dsimp := false) only [call_call, hl62, hF62, fw.chk0, fw.chkF, fw.same, erows_call, hM62, hFl, eval_nilI, ↓er_neq, ↓cdK_false, ↓gdK_f, ↓gval_mk, ↓gvL_zero, ↓gvL_succ, ↓nthK_H, ↓nthH_zero, ↓nthH_succ, ↓aw_cond, ↓aw_seq, ↓aw_block, ↓aw_skip, ↓aw_loop, ↓aw_reg, ↓Qseq_n, ↓ops_nil, ↓ops_cons, ↓ops_guard, ↓eval_tmp, ↓eval_int, ↓eval_func, ↓put_some, ↓bK_b, ↓lenK_l, ↓tK_t, ↓binE_i, ↓bi_gtr, ↓op_move, ↓op_assign, ↓op_pick, ↓op_bin, ↓op_not, ↓op_extract, ↓op_len, ↓op_call, isD_d, ↓fnK_f, ↓call_H, ↓callK_H, ↓allT_nil, ↓allT_cons, ↓td_d, ↓st_tm, ↓sl22, List.getD_cons_zero, List.getD_cons_succ, List.set_cons_zero, List.set_cons_succ, List.append_nil, List.length_map, List.all_cons, List.all_nil, Bool.true_and, Bool.and_self, Bool.true_or, Nat.reduceAdd, Nat.reduceSub, Nat.reduceMul, evK_go, reduceIte, decide_true, decide_false, Bool.not_true, Nat.reduceEqDiff, Nat.reduceLT, and_self, true_and, Int.ofNat_lt]
  (repeat refine OrH.l ?_)
  refine ⟨hM62.2, ?_⟩
  refine loopW (fun i : Nat => { tm := slots 102 [(0, .d (I .i64 n)), (1, .d (.l (l.map lnD))), (2, .d (I .i64 k)), (8, .d (.l (F.map lnD))), (10, .d (.l ((closeAll n l).map liD))), (14, .d (I .i64 i))], bx := [], rw := [] })
    (fun i => i ≤ F.length) (fun i => F.length - i) 0 (by simp) ?_ ?_
  · refine Wkn.of [] [] ?_; simp (implicitDefEqProofs := false) (dsimp := false) only [List.set_cons_zero, List.set_cons_succ, Bool.and_self, Nat.reduceAdd, Nat.reduceSub, Nat.reduceMul, List.replicate, evK_go, reduceIte, Nat.reduceEqDiff, Nat.reduceLT, and_self, List.foldl_cons, List.foldl_nil, Int.cast_ofNat_Int, slots, wkL_nil, wkL_cons, wkB_nil, wkR_nil, wkV_j, wkV_d, frz_d, reduceCtorEq]
  · intro i hi
    simp (implicitDefEqProofs := false) (dsimp := false) only [slots, ↓aw_cond, ↓aw_seq, ↓aw_reg, ↓Qseq_n, ↓ops_nil, ↓ops_cons, ↓eval_tmp, ↓put_some, ↓bK_b, ↓lenK_l, ↓binE_i, ↓bi_lss, ↓op_move, ↓op_bin, ↓op_len, ↓sl22, List.getD_cons_zero, List.getD_cons_succ, List.set_cons_zero, List.set_cons_succ, List.length_map, Nat.reduceAdd, Nat.reduceSub, Nat.reduceMul, List.replicate, evK_go, reduceIte, Nat.reduceEqDiff, Nat.reduceLT, List.foldl_cons, List.foldl_nil, Int.ofNat_lt]
    refine cdK_dec (fun h => ?_) (fun h => ?_)
    · have hm := fw.sub _ (getD_mem h)
      simp (implicitDefEqProofs := false) (dsimp := false) only [h, lnD, goes_callQ, hl62, ↓cdK_not, ↓atK_H, ↓atH_map, ↓aw_cond, ↓aw_seq, ↓aw_block, ↓aw_skip, ↓aw_draw, ↓Qseq_n, ↓eval_tmp, ↓eval_func, ↓put_some, ↓bK_b, ↓iK_i, ↓ev_move, ↓ev_load, ↓ev_not, ↓ev_fa, ↓ev_ia, ↓ldK_q, ↓faK_q, ↓iaK_l, isD_d, ↓fnK_f, ↓callKQ_H, ↓allT_nil, ↓allT_cons, ↓td_d, ↓draw_H, ↓h_nil, ↓h_cons, ↓ldH_n, ↓q_call, ↓q_move, ↓q_load, ↓q_un, ↓q_fa, ↓q_ia, ↓il_move, ↓il_load, ↓il_un, ↓il_fa, ↓il_ia, ↓il_call, ↓cells_s, ↓hd_cons, ↓ty3, ↓sl22, ↓ty35, ↓fd35_0, ↓fd35_1, List.getD_cons_zero, List.getD_cons_succ, List.set_cons_zero, List.set_cons_succ, List.append_nil, List.length_cons, List.length_nil, List.all_cons, List.all_nil, Bool.true_and, Bool.and_self, Bool.true_or, Nat.reduceAdd, Nat.reduceSub, Nat.reduceMul, Nat.zero_add, Int.toNat_natCast, evK_go, reduceIte, decide_true, Nat.reduceEqDiff, Nat.reduceLT, and_self, true_and, Int.zero_add, List.drop_zero, List.drop_succ_cons, Int.natCast_nonneg]
      have e : ((F.getD i default).1, (F.getD i default).2) = F.getD i default := rfl
      refine OrH.l ⟨DrawH.of follows_mixed (by kernel_rfl), ?_⟩
      simp (implicitDefEqProofs := false) (dsimp := false) only [e, hm, ↓cdK_true, ↓aw_skip, ↓aw_reg, ↓Qseq_n, ↓Qblk_n, ↓ops_nil, ↓ops_cons, ↓eval_tmp, ↓eval_int, ↓put_some, ↓binE_i, ↓bi_add, ↓in_i64, ↓op_move, ↓op_assign, ↓op_bin, List.getD_cons_zero, List.getD_cons_succ, List.set_cons_zero, List.set_cons_succ, Nat.reduceAdd, Nat.reduceSub, Nat.reduceMul, evK_go, reduceIte, decide_true, Bool.not_true, Nat.reduceEqDiff, Nat.reduceLT]
      (repeat refine OrH.l ?_)
      refine ⟨by omega, i + 1, by omega, by omega, ?_⟩
      refine Wkn.of [] [] ?_; simp (implicitDefEqProofs := false) (dsimp := false) only [List.set_cons_zero, List.set_cons_succ, Bool.and_self, Nat.reduceAdd, Nat.reduceSub, Nat.reduceMul, List.replicate, evK_go, reduceIte, Nat.reduceEqDiff, Nat.reduceLT, and_self, List.foldl_cons, List.foldl_nil, Int.cast_ofNat_Int, Int.natCast_add, slots, wkL_nil, wkL_cons, wkB_nil, wkR_nil, wkV_j, wkV_d, frz_d, reduceCtorEq]
    · simp (implicitDefEqProofs := false) (dsimp := false) only [in2_call, ↓cdK_not, ↓aw_cond, ↓aw_seq, ↓aw_exit, ↓aw_reg, ↓Qseq_n, ↓Qseq_x, ↓Qblk_x, ↓ops_nil, ↓ops_cons, ↓eval_tmp, ↓eval_int, ↓eval_func, ↓put_some, ↓bK_b, ↓lenK_l, ↓binE_i, ↓bi_sub, ↓in_i64, ↓op_move, ↓op_bin, ↓op_not, ↓op_len, ↓op_call, isD_d, ↓fnK_f, ↓call_H, ↓callK_H, ↓allT_nil, ↓allT_cons, ↓td_d, ↓sl22, List.getD_cons_zero, List.getD_cons_succ, List.set_cons_zero, List.set_cons_succ, List.append_nil, List.length_map, List.all_cons, List.all_nil, Bool.true_and, Bool.and_self, Bool.true_or, Nat.reduceAdd, Nat.reduceSub, Nat.reduceMul, evK_go, reduceIte, Nat.reduceEqDiff, Nat.reduceLT, and_self, true_and]
      refine ⟨by omega, ?_⟩
      (repeat refine OrH.l ?_)
      refine cdK_split (fun hk => ?_) (fun hk => ?_)
      rotate_left
      · simp (implicitDefEqProofs := false) (dsimp := false) only [↓aw_seq, ↓aw_ret, ↓aw_reg, ↓Qseq_n, ↓Qseq_r, ↓Qret_r, ↓ops_nil, ↓ops_cons, ↓eval_tmp, ↓eval_bool, ↓put_some, ↓op_assign, ↓td_d, ↓ret_1, List.getD_cons_zero, List.getD_cons_succ, List.set_cons_zero, List.set_cons_succ, Nat.reduceAdd, Nat.reduceSub, Nat.reduceMul, evK_go, reduceIte, Nat.reduceEqDiff, Nat.reduceLT]
      rw [inB_iff] at hk
      obtain ⟨x, rfl⟩ := Int.eq_ofNat_of_zero_le hk.1
      obtain ⟨hB1, hB2⟩ := fw.need x (by omega)
      have hB62 : (butL F (x : Int)).length < 2 ^ 62 := by
        have := butK_len F (x : Int) F.length
        unfold butL; omega
      have hB3 : ¬ closeAll n l = closeAll n (butL F (x : Int)) := fun e => hB2 e.symm
      have hF43 : F.length < 2 ^ 43 := by omega
      simp (implicitDefEqProofs := false) (dsimp := false) only [but_callD, hF43, call_call, hB62, hB1, hB3, erows_call, hM62, eval_nilI, ↓er_eql, ↓cdK_true, ↓gdK_t, ↓gval_mk, ↓gvL_zero, ↓gvL_succ, ↓nthK_H, ↓nthH_zero, ↓nthH_succ, ↓aw_seq, ↓aw_ret, ↓aw_skip, ↓aw_reg, ↓Qseq_n, ↓Qret_r, ↓ops_nil, ↓ops_cons, ↓ops_guard, ↓eval_tmp, ↓eval_func, ↓put_some, ↓bK_b, ↓tK_t, ↓op_move, ↓op_assign, ↓op_pick, ↓op_bin, ↓op_not, ↓op_extract, ↓op_call, isD_d, ↓fnK_f, ↓call_H, ↓callK_H, ↓allT_nil, ↓allT_cons, ↓td_d, ↓ret_1, ↓st_tm, List.getD_cons_zero, List.getD_cons_succ, List.set_cons_zero, List.set_cons_succ, List.append_nil, List.all_cons, List.all_nil, Bool.and_true, Bool.true_and, Bool.and_self, Bool.true_or, Nat.reduceAdd, Nat.reduceSub, Nat.reduceMul, evK_go, reduceIte, decide_true, decide_false, Bool.not_false, Nat.reduceEqDiff, Nat.reduceLT, and_self, true_and, and_true]
      (repeat refine OrH.l ?_)
      exact hM62.2
end Go.Proofs

namespace Go.Proofs
open Go.Aw
set_option linter.unusedSimpArgs false
set_option maxRecDepth 10000
theorem lStrongMore_spec (n : Int) (l : List (Int × Int)) (p : Int × Int) (_hn : -9223372036854775808 ≤ n ∧ n ≤ 9223372036854775807) (hpre : l.length < 2 ^ 43) : FnD Try.prog 10 [I .i64 n, .l (l.map lnD), lnD p] (Bo true) := by
  have hl62 : l.length < 2 ^ 62 := by omega
  have e0 : lnD p = .s [I .i64 p.1, I .i64 p.2] := rfl
  rw [e0]
  refine FnD.go Try.func10 rfl rfl Try.results10 Try.ntmps10 ?_
  simp (implicitDefEqProofs := false) (dsimp := false) only [↓aw_seq, ↓aw_reg, ↓Qseq_n, ↓ops_nil, ↓ops_cons, ↓eval_tmp, ↓eval_bool, ↓eval_func, ↓put_some, ↓op_assign, ↓op_call, ↓op_box, isD_d, ↓fnK_f, ↓call_H, ↓callK_H, ↓allT_nil, ↓td_d, ↓addBox_mk, ↓st_bx, ↓vcells_s, ↓one_i, ↓vone_d, List.getD_cons_zero, List.getD_cons_succ, List.set_cons_zero, List.set_cons_succ, List.cons_append, List.nil_append, List.append_nil, List.map_cons, List.map_nil, List.length_cons, List.length_nil, List.all_cons, List.all_nil, Bool.true_and, Bool.and_self, Nat.reduceAdd, Nat.reduceSub, Nat.reduceMul, Nat.zero_add, List.replicate, evK_go, reduceIte, Nat.reduceEqDiff, Nat.reduceLT, and_self, true_and, Int.zero_add]
  simp (implicitDefEqProofs := false) (dsimp := false) only [sfact_call, spartsS_call, hl62, eval_nilI, ↓er_neq, ↓cdK_false, ↓cdK_not, ↓gdK_f, ↓gval_mk, ↓gvL_zero, ↓gvL_succ, ↓nthK_H, ↓nthH_zero, ↓nthH_succ, ↓aw_cond, ↓aw_seq, ↓aw_skip, ↓aw_reg, ↓Qseq_n, ↓ops_nil, ↓ops_cons, ↓ops_guard, ↓eval_tmp, ↓eval_func, ↓put_some, ↓bK_b, ↓tK_t, ↓op_move, ↓op_assign, ↓op_bin, ↓op_not, ↓op_extract, ↓op_call, isD_d, ↓fnK_f, ↓call_H, ↓callK_H, ↓allT_nil, ↓allT_cons, ↓td_d, ↓st_tm, List.getD_cons_zero, List.getD_cons_succ, List.set_cons_zero, List.set_cons_succ, List.append_nil, List.all_cons, List.all_nil, Bool.true_and, Bool.and_self, Bool.true_or, Nat.reduceAdd, Nat.reduceSub, Nat.reduceMul, evK_go, reduceIte, Bool.not_true, Nat.reduceEqDiff, Nat.reduceLT, and_self, true_and]
  refine OrH.l (OrH.l (OrH.l (OrH.l (cdK_dec (fun hc => ?_) (fun hc => ?_)))))
  rotate_left
  · have e1 : strongR n l = [] := if_neg hc
    simp (implicitDefEqProofs := false) (dsimp := false) only [e1, hc, eval_nilI, ↓er_eql, ↓cdK_true, ↓cdK_false, ↓gdK_f, ↓gval_mk, ↓gvL_zero, ↓gvL_succ, ↓aw_cond, ↓aw_seq, ↓aw_ret, ↓aw_reg, ↓Qseq_n, ↓Qseq_r, ↓Qret_r, ↓ops_nil, ↓ops_cons, ↓ops_guard, ↓eval_tmp, ↓eval_int, ↓eval_bool, ↓put_some, ↓bK_b, ↓lenK_l, ↓binE_i, ↓bi_eql, ↓op_move, ↓op_assign, ↓op_pick, ↓op_bin, ↓op_len, ↓td_d, ↓ret_1, ↓st_tm, ↓sl28, List.getD_cons_zero, List.getD_cons_succ, List.set_cons_zero, List.set_cons_succ, List.map_nil, List.length_nil, Nat.reduceAdd, Nat.reduceSub, Nat.reduceMul, evK_go, reduceIte, decide_true, decide_false, Bool.not_false, Nat.reduceEqDiff, Nat.reduceLT, Int.cast_ofNat_Int]
  simp (implicitDefEqProofs := false) (dsimp := false) only [hc, ↓cdK_false, ↓gdK_f, ↓gval_mk, ↓gvL_zero, ↓gvL_succ, ↓aw_cond, ↓Qseq_n, ↓ops_nil, ↓ops_cons, ↓ops_guard, ↓eval_tmp, ↓eval_int, ↓put_some, ↓bK_b, ↓lenK_l, ↓binE_i, ↓bi_eql, ↓op_move, ↓op_pick, ↓op_bin, ↓op_len, ↓st_tm, ↓sl22, List.getD_cons_zero, List.getD_cons_succ, List.set_cons_zero, List.set_cons_succ, List.length_map, Nat.reduceAdd, Nat.reduceSub, Nat.reduceMul, evK_go, reduceIte, decide_true, Bool.not_true, Nat.reduceEqDiff, Nat.reduceLT]
  have ok := chk_ok hc
  have hlen := ok.len
  refine cdK_dec (fun h24 => ?_) (fun h24 => ?_)
  · simp (implicitDefEqProofs := false) (dsimp := false) only [eval_nilI, ↓er_eql, ↓cdK_true, ↓gdK_f, ↓gval_mk, ↓gvL_zero, ↓gvL_succ, ↓aw_seq, ↓aw_ret, ↓aw_reg, ↓Qseq_n, ↓Qseq_r, ↓Qret_r, ↓ops_nil, ↓ops_cons, ↓ops_guard, ↓eval_tmp, ↓eval_bool, ↓put_some, ↓bK_b, ↓op_move, ↓op_assign, ↓op_pick, ↓op_bin, ↓td_d, ↓ret_1, ↓st_tm, List.getD_cons_zero, List.getD_cons_succ, List.set_cons_zero, List.set_cons_succ, Nat.reduceAdd, Nat.reduceSub, Nat.reduceMul, evK_go, reduceIte, decide_true, Nat.reduceEqDiff, Nat.reduceLT]
  simp (implicitDefEqProofs := false) (dsimp := false) only [↓optK_some, ↓rwK_mk_, ↓aw_seq, ↓aw_skip, ↓aw_reg, ↓Qseq_n, ↓ops_nil, ↓ops_cons, ↓eval_tmp, ↓eval_nil, ↓eval_func, ↓put_some, ↓dK_d, ↓sboxK_s, ↓ldK_p, ↓op_move, ↓op_assign, ↓op_load, ↓op_append, ↓op_call, isD_d, isD_o, ↓fnK_f, ↓call_H, ↓callK_H, ↓allT_nil, ↓allT_cons, ↓allD_nil, ↓allD_cons, ↓td_d, ↓td_o, ↓addRow_mk, ↓app_mk, ↓st_rw, ↓row_sz, ↓row_xs, kill_d, kill_j, kill_nl, kill_p, kill_o, ↓cells_s, ↓one_i, ↓ap_, ↓ap_nl, ↓ap_o, ↓src_l, ↓bs_, ↓op_bs, ↓bsL_f, ↓stored_mk, ↓sl_nil, ↓sl_cons, ↓sT_move, ↓sT_assign, ↓sT_load, ↓sT_extract, ↓sT_bs, ↓sT_call, ↓vsz_agg, ↓inO_1, ↓fm_nil, ↓fm_cons, ↓sl22, ↓ty35, ↓zb35, List.getD_cons_zero, List.getD_cons_succ, List.set_cons_zero, List.set_cons_succ, List.nil_append, List.append_nil, List.map_cons, List.map_nil, List.length_cons, List.length_nil, List.length_map, List.all_cons, List.all_nil, Bool.and_true, Bool.true_and, Bool.and_self, Bool.and_false, Bool.or_false, Nat.reduceAdd, Nat.reduceSub, Nat.reduceMul, Nat.zero_add, evK_go, reduceIte, Nat.reduceEqDiff, Nat.reduceLT, and_self, true_and, and_true, Int.zero_add, List.drop_zero]
  have hm62 : (l ++ [p]).length < 2 ^ 62 := by simp; omega
  refine ⟨rfl, fun y hy => ?_, ⟨by omega, by omega⟩, ⟨rfl, by decide⟩, rfl, ⟨fun _ => trivial, by omega, by omega⟩, OrH.r (Loud.frz { tm := slots 94 [(0, .d (I .i64 n)), (8, .d (.l ((strongR n l).map nD))), (41, .d (I .i64 n)), (45, .d (.l ((l ++ [p]).map lnD)))], bx := [], rw := [] } (Wkn.of [] [] ?_) ?_)⟩
  · obtain ⟨q, _, rfl⟩ := List.mem_map.1 hy
    exact ⟨rfl, rfl⟩
  · have e1 : List.take (l.length + 1) (l.map lnD ++ [D.s [I .i64 p.1, I .i64 p.2]]) = (l ++ [p]).map lnD := by
      rw [List.map_append]
      exact List.take_of_length_le (by simp)
    simp (implicitDefEqProofs := false) (dsimp := false) only [e1, ↓optK_some, ↓row_xs, List.getD_cons_zero, List.set_cons_zero, List.set_cons_succ, Bool.and_self, Nat.reduceAdd, Nat.reduceSub, Nat.reduceMul, List.replicate, evK_go, reduceIte, Nat.reduceEqDiff, Nat.reduceLT, and_self, not_false_eq_true, List.drop_zero, List.foldl_cons, List.foldl_nil, slots, wkL_nil, wkL_cons, wkB_nil, wkR_nil, wkV_j, wkV_d, frz_d, frz_o, dl_eq, reduceCtorEq, List.not_mem_nil]
  · have e2 := Ok.n0 ok
    simp (implicitDefEqProofs := false) (dsimp := false) only [slots, spartsS_call, hm62, eval_nilI, ↓er_neq, ↓cdK_not, ↓nthK_H, ↓nthH_zero, ↓nthH_succ, ↓aw_cond, ↓aw_seq, ↓aw_reg, ↓Qseq_n, ↓ops_nil, ↓ops_cons, ↓eval_tmp, ↓eval_func, ↓put_some, ↓bK_b, ↓tK_t, ↓op_move, ↓op_assign, ↓op_bin, ↓op_extract, isD_d, ↓fnK_f, ↓call_H, ↓callK_H, ↓allT_nil, ↓allT_cons, ↓td_d, List.getD_cons_zero, List.getD_cons_succ, List.set_cons_zero, List.set_cons_succ, List.append_nil, List.all_cons, List.all_nil, Bool.true_and, Bool.and_self, Bool.true_or, Nat.reduceAdd, Nat.reduceSub, Nat.reduceMul, List.replicate, evK_go, reduceIte, Nat.reduceEqDiff, Nat.reduceLT, and_self, true_and, List.foldl_cons, List.foldl_nil]
    refine OrH.l (OrH.l ?_)
    refine cdK_dec (fun hc2 => ?_) (fun hc2 => ?_)
    rotate_left
    · have e1 : strongR n (l ++ [p]) = [] := if_neg hc2
      simp (implicitDefEqProofs := false) (dsimp := false) only [e1, ↓aw_seq, ↓aw_ret, ↓aw_reg, ↓Qseq_n, ↓Qseq_r, ↓Qret_r, ↓ops_nil, ↓ops_cons, ↓eval_tmp, ↓eval_int, ↓put_some, ↓lenK_l, ↓binE_i, ↓bi_eql, ↓op_move, ↓op_assign, ↓op_bin, ↓op_len, ↓td_d, ↓ret_1, ↓sl28, List.getD_cons_zero, List.getD_cons_succ, List.set_cons_zero, List.set_cons_succ, List.map_nil, List.length_nil, Nat.reduceAdd, Nat.reduceSub, Nat.reduceMul, evK_go, reduceIte, decide_true, Nat.reduceEqDiff, Nat.reduceLT, Int.cast_ofNat_Int]
    have ok2 := chk_ok hc2
    have hgl := ok.good
    have hgl2 := ok2.good
    have h8 := ok.hi
    rw [show strongR n l = strongP n.toNat (natL l) from if_pos hc, show strongR n (l ++ [p]) = strongP n.toNat (natL (l ++ [p])) from if_pos hc2]
    have hsub : ∀ q ∈ natL l, q ∈ natL (l ++ [p]) := fun q hq => by unfold natL at hq ⊢; rw [List.map_append]; exact List.mem_append_left _ hq
    clear ok ok2 hc hc2 h24 hlen hl62 hm62 hpre
    generalize natL (l ++ [p]) = L2 at *
    generalize natL l = L at *
    generalize n.toNat = m at *
    subst e2
    have hP : (strongP m L).length = m := by simp [strongP]
    have hP2 : (strongP m L2).length = m := by simp [strongP]
    have key : ∀ a b, a < m → b < m → (strongP m L).getD a default = (strongP m L).getD b default → (strongP m L2).getD a default = (strongP m L2).getD b default := fun a b ha hb e => by
      rw [P_get ha, P_get hb] at e
      rw [P_get ha, P_get hb]
      exact strong_more (by omega) hgl hgl2 hsub ha hb e
    generalize strongP m L = A at *
    generalize strongP m L2 = B at *
    simp (implicitDefEqProofs := false) (dsimp := false) only [hP, hP2, ↓cdK_false, ↓gdK_f, ↓gval_mk, ↓gvL_zero, ↓gvL_succ, ↓aw_cond, ↓aw_seq, ↓aw_block, ↓aw_skip, ↓aw_loop, ↓aw_reg, ↓Qseq_n, ↓ops_nil, ↓ops_cons, ↓ops_guard, ↓eval_tmp, ↓eval_int, ↓put_some, ↓bK_b, ↓lenK_l, ↓binE_i, ↓bi_neq, ↓op_move, ↓op_assign, ↓op_pick, ↓op_bin, ↓op_len, ↓st_tm, ↓sl28, List.getD_cons_zero, List.getD_cons_succ, List.set_cons_zero, List.set_cons_succ, List.length_map, Nat.reduceAdd, Nat.reduceSub, Nat.reduceMul, evK_go, reduceIte, decide_true, Bool.not_true, Nat.reduceEqDiff, Nat.reduceLT]
    refine loopW (fun k : Nat => { tm := slots 94 [(0, .d (I .i64 (m : Int))), (8, .d (.l (A.map nD))), (11, .d (.l (B.map nD))), (12, .d (I .i64 k))], bx := [], rw := [] })
      (fun k => k ≤ m) (fun k => m - k) 0 (by simp) ?_ ?_
    · refine Wkn.of [] [] ?_
      simp (implicitDefEqProofs := false) (dsimp := false) only [List.set_cons_zero, List.set_cons_succ, Bool.and_self, Nat.reduceAdd, Nat.reduceSub, Nat.reduceMul, List.replicate, evK_go, reduceIte, Nat.reduceEqDiff, Nat.reduceLT, and_self, List.foldl_cons, List.foldl_nil, Int.cast_ofNat_Int, slots, wkL_nil, wkL_cons, wkB_nil, wkR_nil, wkV_j, wkV_d, frz_d, reduceCtorEq]
    · intro k hk
      simp (implicitDefEqProofs := false) (dsimp := false) only [slots, ↓aw_cond, ↓aw_seq, ↓aw_reg, ↓Qseq_n, ↓ops_nil, ↓ops_cons, ↓eval_tmp, ↓put_some, ↓bK_b, ↓binE_i, ↓bi_lss, ↓op_move, ↓op_bin, List.getD_cons_zero, List.getD_cons_succ, List.set_cons_zero, List.set_cons_succ, Nat.reduceAdd, Nat.reduceSub, Nat.reduceMul, List.replicate, evK_go, reduceIte, Nat.reduceEqDiff, Nat.reduceLT, List.foldl_cons, List.foldl_nil, Int.ofNat_lt]
      refine cdK_dec (fun h => ?_) (fun h => ?_)
      · simp (implicitDefEqProofs := false) (dsimp := false) only [↓aw_seq, ↓aw_block, ↓aw_skip, ↓aw_loop, ↓aw_reg, ↓Qseq_n, ↓ops_nil, ↓ops_cons, ↓eval_int, ↓put_some, ↓op_assign, List.set_cons_zero, List.set_cons_succ, Nat.reduceAdd, Nat.reduceSub, Nat.reduceMul, evK_go, reduceIte, Nat.reduceEqDiff, Nat.reduceLT]
        refine loopW (fun j : Nat => { tm := slots 94 [(0, .d (I .i64 (m : Int))), (8, .d (.l (A.map nD))), (11, .d (.l (B.map nD))), (12, .d (I .i64 k)), (13, .d (I .i64 j))], bx := [], rw := [] })
          (fun j => j ≤ m) (fun j => m - j) 0 (by simp) ?_ ?_
        · refine Wkn.of [] [] ?_
          simp (implicitDefEqProofs := false) (dsimp := false) only [List.set_cons_zero, List.set_cons_succ, Bool.and_self, Nat.reduceAdd, Nat.reduceSub, Nat.reduceMul, List.replicate, evK_go, reduceIte, Nat.reduceEqDiff, Nat.reduceLT, and_self, List.foldl_cons, List.foldl_nil, Int.cast_ofNat_Int, slots, wkL_nil, wkL_cons, wkB_nil, wkR_nil, wkV_j, wkV_d, frz_d, reduceCtorEq]
        · intro j hj
          simp (implicitDefEqProofs := false) (dsimp := false) only [slots, ↓aw_cond, ↓aw_seq, ↓aw_reg, ↓Qseq_n, ↓ops_nil, ↓ops_cons, ↓eval_tmp, ↓put_some, ↓bK_b, ↓binE_i, ↓bi_lss, ↓op_move, ↓op_bin, List.getD_cons_zero, List.getD_cons_succ, List.set_cons_zero, List.set_cons_succ, Nat.reduceAdd, Nat.reduceSub, Nat.reduceMul, List.replicate, evK_go, reduceIte, Nat.reduceEqDiff, Nat.reduceLT, List.foldl_cons, List.foldl_nil, Int.ofNat_lt]
          refine cdK_dec (fun h' => ?_) (fun h' => ?_)
          · simp (implicitDefEqProofs := false) (dsimp := false) only [h, h', hP, nD, ↓gdK_t, ↓gval_mk, ↓gvL_zero, ↓gvL_succ, ↓atK_H, ↓atH_map, ↓aw_seq, ↓aw_block, ↓aw_skip, ↓aw_draw, ↓Qseq_n, ↓eval_tmp, ↓put_some, ↓iK_i, ↓ev_move, ↓ev_load, ↓ev_bin, ↓ev_ia, ↓binE_i, ↓bi_eql, ↓ldK_q, ↓iaK_l, ↓draw_H, ↓h_cons, ↓ldH_n, ↓ldH_g, ↓q_move, ↓q_load, ↓q_bin, ↓q_ia, ↓il_move, ↓il_load, ↓il_bin, ↓il_ia, ↓st_tm, ↓cells_c, ↓hd_cons, ↓ty3, ↓sl28, List.getD_cons_zero, List.getD_cons_succ, List.set_cons_zero, List.set_cons_succ, List.length_cons, List.length_nil, Bool.true_and, Nat.reduceAdd, Nat.reduceSub, Nat.reduceMul, Nat.zero_add, Int.toNat_natCast, evK_go, reduceIte, decide_true, Nat.reduceEqDiff, Nat.reduceLT, true_and, Int.zero_add, Int.natCast_nonneg, Int.natCast_inj]
            refine OrH.l ⟨DrawH.of follows_mixed (by kernel_rfl), cdK_dec (fun he => ?_) (fun he => ?_)⟩
            · have hb := key k j h h' he
              simp (implicitDefEqProofs := false) (dsimp := false) only [he, hb, h, h', hP2, nD, ↓cdK_true, ↓cdK_false, ↓gdK_t, ↓gval_mk, ↓gvL_zero, ↓gvL_succ, ↓atK_H, ↓atH_map, ↓aw_cond, ↓aw_skip, ↓aw_reg, ↓Qseq_n, ↓Qblk_n, ↓ops_nil, ↓ops_cons, ↓eval_tmp, ↓eval_int, ↓put_some, ↓bK_b, ↓iK_i, ↓ev_move, ↓ev_pick, ↓ev_load, ↓ev_bin, ↓ev_ia, ↓binE_i, ↓bi_add, ↓bi_neq, ↓in_i64, ↓ldK_q, ↓iaK_l, ↓op_move, ↓op_assign, ↓op_bin, ↓h_nil, ↓h_cons, ↓ldH_n, ↓ldH_g, ↓q_move, ↓q_pick, ↓q_load, ↓q_bin, ↓q_ia, ↓il_move, ↓il_pick, ↓il_load, ↓il_bin, ↓il_ia, ↓st_tm, ↓cells_c, ↓hd_cons, ↓ty3, ↓sl28, List.getD_cons_zero, List.getD_cons_succ, List.set_cons_zero, List.set_cons_succ, List.length_cons, List.length_nil, Bool.true_and, Nat.reduceAdd, Nat.reduceSub, Nat.reduceMul, Nat.zero_add, Int.toNat_natCast, evK_go, reduceIte, decide_true, Bool.not_true, Nat.reduceEqDiff, Nat.reduceLT, true_and, Int.zero_add, Int.natCast_nonneg]
              refine ⟨by omega, j + 1, by omega, by omega, ?_⟩
              refine Wkn.of [] [] ?_
              simp (implicitDefEqProofs := false) (dsimp := false) only [List.set_cons_zero, List.set_cons_succ, Bool.and_self, Nat.reduceAdd, Nat.reduceSub, Nat.reduceMul, List.replicate, evK_go, reduceIte, Nat.reduceEqDiff, Nat.reduceLT, and_self, List.foldl_cons, List.foldl_nil, Int.cast_ofNat_Int, Int.natCast_add, slots, wkL_nil, wkL_cons, wkB_nil, wkR_nil, wkV_j, wkV_d, frz_d, reduceCtorEq]
            · simp (implicitDefEqProofs := false) (dsimp := false) only [he, ↓cdK_false, ↓gdK_t, ↓gval_mk, ↓gvL_zero, ↓gvL_succ, ↓aw_cond, ↓aw_skip, ↓aw_reg, ↓Qseq_n, ↓Qblk_n, ↓ops_nil, ↓ops_cons, ↓eval_tmp, ↓eval_int, ↓eval_bool, ↓put_some, ↓bK_b, ↓ev_pick, ↓binE_i, ↓bi_add, ↓in_i64, ↓op_move, ↓op_assign, ↓op_bin, ↓h_nil, ↓h_cons, ↓ldH_n, ↓ldH_g, ↓q_pick, ↓il_move, ↓il_pick, ↓il_load, ↓il_bin, ↓il_ia, ↓st_tm, List.getD_cons_zero, List.getD_cons_succ, List.set_cons_zero, List.set_cons_succ, Nat.reduceAdd, Nat.reduceSub, Nat.reduceMul, evK_go, reduceIte, decide_false, Nat.reduceEqDiff, Nat.reduceLT]
              refine ⟨by omega, j + 1, by omega, by omega, ?_⟩
              refine Wkn.of [] [] ?_
              simp (implicitDefEqProofs := false) (dsimp := false) only [List.set_cons_zero, List.set_cons_succ, Bool.and_self, Nat.reduceAdd, Nat.reduceSub, Nat.reduceMul, List.replicate, evK_go, reduceIte, Nat.reduceEqDiff, Nat.reduceLT, and_self, List.foldl_cons, List.foldl_nil, Int.cast_ofNat_Int, Int.natCast_add, slots, wkL_nil, wkL_cons, wkB_nil, wkR_nil, wkV_j, wkV_d, frz_d, reduceCtorEq]
          · simp (implicitDefEqProofs := false) (dsimp := false) only [↓aw_seq, ↓aw_exit, ↓aw_ret, ↓aw_reg, ↓Qseq_n, ↓Qseq_x, ↓Qblk_n, ↓Qblk_x, ↓Qret_r, ↓ops_nil, ↓ops_cons, ↓eval_tmp, ↓eval_int, ↓eval_bool, ↓put_some, ↓binE_i, ↓bi_add, ↓in_i64, ↓op_move, ↓op_assign, ↓op_bin, ↓td_d, ↓ret_1, List.getD_cons_zero, List.getD_cons_succ, List.set_cons_zero, List.set_cons_succ, Nat.reduceAdd, Nat.reduceSub, Nat.reduceMul, evK_go, reduceIte, Nat.reduceEqDiff, Nat.reduceLT]
            refine ⟨by omega, k + 1, by omega, by omega, ?_⟩
            refine Wkn.of [] [] ?_
            simp (implicitDefEqProofs := false) (dsimp := false) only [List.set_cons_zero, List.set_cons_succ, Bool.and_self, Nat.reduceAdd, Nat.reduceSub, Nat.reduceMul, List.replicate, evK_go, reduceIte, Nat.reduceEqDiff, Nat.reduceLT, and_self, List.foldl_cons, List.foldl_nil, Int.cast_ofNat_Int, Int.natCast_add, slots, wkL_nil, wkL_cons, wkB_nil, wkR_nil, wkV_j, wkV_d, frz_d, reduceCtorEq]
      · simp (implicitDefEqProofs := false) (dsimp := false) only [↓aw_seq, ↓aw_exit, ↓aw_ret, ↓aw_reg, ↓Qseq_n, ↓Qseq_x, ↓Qblk_x, ↓Qret_r, ↓ops_nil, ↓ops_cons, ↓eval_tmp, ↓eval_bool, ↓put_some, ↓op_assign, ↓td_d, ↓ret_1, List.getD_cons_zero, List.getD_cons_succ, List.set_cons_zero, List.set_cons_succ, Nat.reduceAdd, Nat.reduceSub, Nat.reduceMul, evK_go, reduceIte, Nat.reduceEqDiff, Nat.reduceLT]
end Go.Proofs

namespace Go.Proofs
open Go.Aw
set_option linter.unusedSimpArgs false
set_option maxRecDepth 10000
/-- What is known of folded lines: O the numbers, F the lines, R how many parts begin below. -/
structure FoW (n : Int) (l : List (Int × Int)) (O : List Nat) (F : List (Int × Int)) (m : Nat) (R : Nat → Nat) : Prop where
  n0 : n = (m : Int)
  lo : 1 ≤ m
  hi : m ≤ 8
  len : O.length = m
  r0 : R 0 = 0
  rle : ∀ k, k ≤ m → R k ≤ k
  ole : ∀ k, k < m → O.getD k default ≤ R k
  new : ∀ k, k < m → O.getD k default = R k → R (k + 1) = R k + 1
  old : ∀ k, k < m → O.getD k default ≠ R k → R (k + 1) = R k
  lt : ∀ k, k < m → O.getD k default < R m
  few : F.length ≤ 24 → chk (R m : Int) F = 0 ∧ topoE (R m : Int) F = 0 ∧ foldO (R m : Int) F = List.range (R m) ∧ intL (foldL (R m : Int) F) = F
  ways : F.length ≤ 24 → ∀ a b, a < m → b < m → O.getD a default ≠ O.getD b default → ((b : Int) ∈ (closeAll n l).getD a default ↔ ((O.getD b default : Nat) : Int) ∈ (closeAll (R m : Int) F).getD (O.getD a default) default)
theorem foldW {n : Int} {l : List (Int × Int)} (hc : chk n l = 0) : FoW n l (foldO n l) (intL (foldL n l)) n.toNat (rank (strongP n.toNat (natL l))) := by
  have ok := chk_ok hc
  have h8 := ok.hi
  have hlo := ok.lo
  have hg := ok.good
  have hn : n.toNat ≤ 64 := by omega
  rw [show foldO n l = fOut n.toNat (natL l) from if_pos hc, show foldL n l = fLines n.toNat (natL l) from if_pos hc]
  have hr : rank (strongP n.toNat (natL l)) n.toNat = fMany n.toNat (natL l) := fMany_eq.symm
  have hroot : ∀ k, k < n.toNat → (isRoot (strongP n.toNat (natL l)) k = true ↔ part n.toNat (natL l) k = k) := fun k hk => by
    unfold isRoot
    rw [decide_eq_true_eq, P_get hk]
  have hnew : ∀ k, k < n.toNat → ((fOut n.toNat (natL l)).getD k default = rank (strongP n.toNat (natL l)) k ↔ isRoot (strongP n.toNat (natL l)) k = true) := fun k hk => by
    rw [fOut_get hn hg hk]
    constructor
    · intro e
      rw [hroot k hk]
      have h1 := (part_mut hn hg hk).2
      rcases Nat.lt_or_ge (part n.toNat (natL l) k) k with h2 | h2
      · have := rank_lt _ h2 (P_root hn hg hk); omega
      · omega
    · intro h
      rw [(hroot k hk).1 h]
  have hmany : 1 ≤ rank (strongP n.toNat (natL l)) n.toNat := by
    have h0 : isRoot (strongP n.toNat (natL l)) 0 = true := (hroot 0 (by omega)).2 (by have := (part_mut hn hg (i := 0) (by omega)).2; omega)
    have := rank_lt (strongP n.toNat (natL l)) (i := 0) (k := n.toNat) (by omega) h0
    omega
  have hmle := rank_le (strongP n.toNat (natL l)) n.toNat
  have hchk : (fLines n.toNat (natL l)).length ≤ 24 → chk (rank (strongP n.toNat (natL l)) n.toNat : Int) (intL (fLines n.toNat (natL l))) = 0 := fun h => by
    rw [chk_iff]
    refine ⟨⟨by omega, by omega⟩, by simpa [intL] using h, fun p hp => ?_⟩
    obtain ⟨q, hq, rfl⟩ := List.mem_map.1 hp
    have h1 := fLines_good hn hg q hq
    have h2 := ((fLines_mem hn hg).1 hq).1
    rw [lineErr_iff, hr]
    simp (implicitDefEqProofs := false) (dsimp := false) only [intP]
    omega
  refine ⟨ok.n0, hlo, h8, by simp [fOut, fOutP], rfl, fun k _ => rank_le _ _, fun k hk => ?_, fun k hk e => ?_, fun k hk e => ?_, fun k hk => ?_, fun h => ?_, fun h a b ha hb e => ?_⟩
  · rw [fOut_get hn hg hk]
    exact rank_mono _ (part_mut hn hg hk).2
  · rw [rank_succ, if_pos ((hnew k hk).1 e)]
  · rw [rank_succ, if_neg (fun h => e ((hnew k hk).2 h))]; rfl
  · rw [hr]; exact fOut_lt hn hg hk
  · have h : (fLines n.toNat (natL l)).length ≤ 24 := by simpa [intL] using h
    have h0 := hchk h
    have e1 : ((rank (strongP n.toNat (natL l)) n.toNat : Nat) : Int).toNat = fMany n.toNat (natL l) := by rw [Int.toNat_natCast, hr]
    refine ⟨h0, ?_, ?_, ?_⟩
    · unfold topoE
      rw [if_pos h0, e1, natL_int]
      obtain ⟨o, ho⟩ := fold_topo hn hg
      rw [ho]; rfl
    · unfold foldO
      rw [if_pos h0, e1, natL_int, hr]
      exact fold_out hn hg
    · unfold foldL
      rw [if_pos h0, e1, natL_int, fold_lines hn hg]
  · have h : (fLines n.toNat (natL l)).length ≤ 24 := by simpa [intL] using h
    rw [close_mem hc, close_mem (hchk h), natL_int]
    exact (fold_ways hn hg ha hb e).symm
theorem lStrongFold_spec (n : Int) (l : List (Int × Int)) (_hn : -9223372036854775808 ≤ n ∧ n ≤ 9223372036854775807) (hpre : l.length < 2 ^ 43) : FnD Try.prog 21 [I .i64 n, .l (l.map lnD)] (Bo true) := by
  have hl62 : l.length < 2 ^ 62 := by omega
  refine FnD.go Try.func21 rfl rfl Try.results21 Try.ntmps21 ?_
  simp (implicitDefEqProofs := false) (dsimp := false) only [↓aw_seq, ↓aw_reg, ↓Qseq_n, ↓ops_nil, ↓ops_cons, ↓eval_bool, ↓eval_func, ↓put_some, ↓op_assign, ↓op_call, isD_d, ↓fnK_f, ↓call_H, ↓callK_H, ↓allT_nil, ↓td_d, List.set_cons_zero, List.set_cons_succ, List.cons_append, List.nil_append, List.append_nil, List.map_cons, List.map_nil, List.length_cons, List.length_nil, List.all_nil, Bool.and_self, Nat.reduceAdd, Nat.reduceSub, Nat.reduceMul, Nat.zero_add, List.replicate, evK_go, reduceIte, Nat.reduceEqDiff, Nat.reduceLT, and_self, Int.zero_add]
  simp (implicitDefEqProofs := false) (dsimp := false) only [sfact_call, fold_call, hl62, eval_nilI, ↓er_neq, ↓cdK_false, ↓cdK_not, ↓nthK_H, ↓nthH_zero, ↓nthH_succ, ↓aw_cond, ↓aw_seq, ↓aw_skip, ↓aw_reg, ↓Qseq_n, ↓ops_nil, ↓ops_cons, ↓eval_tmp, ↓eval_func, ↓put_some, ↓bK_b, ↓tK_t, ↓op_move, ↓op_assign, ↓op_bin, ↓op_not, ↓op_extract, ↓op_call, isD_d, ↓fnK_f, ↓call_H, ↓callK_H, ↓allT_nil, ↓allT_cons, ↓td_d, List.getD_cons_zero, List.getD_cons_succ, List.set_cons_zero, List.set_cons_succ, List.append_nil, List.all_cons, List.all_nil, Bool.true_and, Bool.and_self, Bool.true_or, Nat.reduceAdd, Nat.reduceSub, Nat.reduceMul, evK_go, reduceIte, Bool.not_true, Nat.reduceEqDiff, Nat.reduceLT, and_self, true_and]
  (repeat refine OrH.l ?_)
  refine cdK_dec (fun hc => ?_) (fun hc => ?_)
  rotate_left
  · have e1 : foldO n l = [] := if_neg hc
    have e2 : foldL n l = [] := if_neg hc
    simp (implicitDefEqProofs := false) (dsimp := false) only [e1, e2, ↓cdK_true, ↓gdK_t, ↓gval_mk, ↓gvL_zero, ↓gvL_succ, ↓aw_seq, ↓aw_ret, ↓aw_reg, ↓Qseq_n, ↓Qseq_r, ↓Qret_r, ↓ops_nil, ↓ops_cons, ↓ops_guard, ↓eval_tmp, ↓eval_int, ↓put_some, ↓bK_b, ↓lenK_l, ↓binE_i, ↓bi_eql, ↓op_move, ↓op_assign, ↓op_pick, ↓op_bin, ↓op_len, ↓td_d, ↓ret_1, ↓st_tm, ↓sl22, ↓sl28, List.getD_cons_zero, List.getD_cons_succ, List.set_cons_zero, List.set_cons_succ, List.map_nil, List.length_nil, Nat.reduceAdd, Nat.reduceSub, Nat.reduceMul, evK_go, reduceIte, decide_true, Nat.reduceEqDiff, Nat.reduceLT, Int.cast_ofNat_Int]
  have fo := foldW hc
  have cw := closeW hc
  rw [lnN_int]
  generalize foldO n l = O at fo ⊢
  generalize intL (foldL n l) = F at fo ⊢
  generalize n.toNat = m at fo cw
  generalize rank _ = R at fo
  have e0 := fo.n0
  have h8 := fo.hi
  have hlo := fo.lo
  have hOL : ((O.length : Nat) : Int) = n := by rw [fo.len, e0]
  simp (implicitDefEqProofs := false) (dsimp := false) only [hOL, ↓cdK_false, ↓gdK_f, ↓gval_mk, ↓gvL_zero, ↓gvL_succ, ↓aw_cond, ↓aw_seq, ↓aw_skip, ↓aw_reg, ↓Qseq_n, ↓ops_nil, ↓ops_cons, ↓ops_guard, ↓eval_tmp, ↓eval_int, ↓put_some, ↓bK_b, ↓lenK_l, ↓binE_i, ↓bi_neq, ↓bi_gtr, ↓op_move, ↓op_pick, ↓op_bin, ↓op_len, ↓st_tm, ↓sl22, ↓sl28, List.getD_cons_zero, List.getD_cons_succ, List.set_cons_zero, List.set_cons_succ, List.length_map, Nat.reduceAdd, Nat.reduceSub, Nat.reduceMul, evK_go, reduceIte, decide_true, Bool.not_true, Nat.reduceEqDiff, Nat.reduceLT]
  refine cdK_dec (fun h24 => ?_) (fun h24 => ?_)
  · simp (implicitDefEqProofs := false) (dsimp := false) only [hOL, ↓aw_seq, ↓aw_ret, ↓aw_reg, ↓Qseq_n, ↓Qseq_r, ↓Qret_r, ↓ops_nil, ↓ops_cons, ↓eval_tmp, ↓put_some, ↓lenK_l, ↓binE_i, ↓bi_eql, ↓op_move, ↓op_assign, ↓op_bin, ↓op_len, ↓td_d, ↓ret_1, ↓sl28, List.getD_cons_zero, List.getD_cons_succ, List.set_cons_zero, List.set_cons_succ, List.length_map, Nat.reduceAdd, Nat.reduceSub, Nat.reduceMul, evK_go, reduceIte, decide_true, Nat.reduceEqDiff, Nat.reduceLT]
  have hF24 : F.length ≤ 24 := by omega
  obtain ⟨g1, g2, g3, g4⟩ := fo.few hF24
  have ways := fo.ways hF24
  simp (implicitDefEqProofs := false) (dsimp := false) only [↓aw_seq, ↓aw_block, ↓aw_skip, ↓aw_loop, ↓aw_reg, ↓Qseq_n, ↓ops_nil, ↓ops_cons, ↓eval_int, ↓put_some, ↓op_assign, List.set_cons_zero, List.set_cons_succ, Nat.reduceAdd, Nat.reduceSub, Nat.reduceMul, evK_go, reduceIte, Nat.reduceEqDiff, Nat.reduceLT]
  refine loopW (fun k : Nat => { tm := slots 190 [(0, .d (I .i64 n)), (1, .d (.l (l.map lnD))), (6, .d (.l (O.map nD))), (7, .d (.l (F.map lnD))), (9, .d (I .i64 (R k : Int))), (10, .d (I .i64 k))], bx := [], rw := [] })
    (fun k => k ≤ m) (fun k => m - k) 0 (by simp) ?_ ?_
  · refine Wkn.of [] [] ?_; simp (implicitDefEqProofs := false) (dsimp := false) only [fo.r0, List.set_cons_zero, List.set_cons_succ, Bool.and_self, Nat.reduceAdd, Nat.reduceSub, Nat.reduceMul, List.replicate, evK_go, reduceIte, Nat.reduceEqDiff, Nat.reduceLT, and_self, List.foldl_cons, List.foldl_nil, Int.cast_ofNat_Int, slots, wkL_nil, wkL_cons, wkB_nil, wkR_nil, wkV_j, wkV_d, frz_d, reduceCtorEq]
  · intro k hk
    have hRk := fo.rle k hk
    simp (implicitDefEqProofs := false) (dsimp := false) only [slots, ↓aw_cond, ↓aw_seq, ↓aw_reg, ↓Qseq_n, ↓ops_nil, ↓ops_cons, ↓eval_tmp, ↓put_some, ↓bK_b, ↓binE_i, ↓bi_lss, ↓op_move, ↓op_bin, List.getD_cons_zero, List.getD_cons_succ, List.set_cons_zero, List.set_cons_succ, Nat.reduceAdd, Nat.reduceSub, Nat.reduceMul, List.replicate, evK_go, reduceIte, Nat.reduceEqDiff, Nat.reduceLT, List.foldl_cons, List.foldl_nil]
    refine cdK_dec (fun h => ?_) (fun h => ?_)
    · have hkm : k < m := by omega
      have hOk : k < O.length := by rw [fo.len]; exact hkm
      have hin : inB ((O.getD k default : Nat) : Int) 0 (R k : Int) = true := inB_iff.2 ⟨by omega, by have := fo.ole k hkm; omega⟩
      simp (implicitDefEqProofs := false) (dsimp := false) only [hOk, nD, in2_call, hin, ↓cdK_false, ↓atK_H, ↓atH_map, ↓aw_cond, ↓aw_seq, ↓aw_block, ↓aw_skip, ↓aw_reg, ↓Qseq_n, ↓ops_nil, ↓ops_cons, ↓eval_tmp, ↓eval_int, ↓eval_func, ↓put_some, ↓bK_b, ↓iK_i, ↓binE_i, ↓bi_eql, ↓ldK_q, ↓iaK_l, ↓op_move, ↓op_load, ↓op_bin, ↓op_not, ↓op_ia, ↓op_call, isD_d, ↓fnK_f, ↓call_H, ↓callK_H, ↓allT_nil, ↓allT_cons, ↓td_d, ↓cells_c, ↓hd_cons, ↓ty3, ↓sl28, List.getD_cons_zero, List.getD_cons_succ, List.set_cons_zero, List.set_cons_succ, List.append_nil, List.length_cons, List.length_nil, List.all_cons, List.all_nil, Bool.true_and, Bool.and_self, Bool.true_or, Nat.reduceAdd, Nat.reduceSub, Nat.reduceMul, Nat.zero_add, Int.toNat_natCast, evK_go, reduceIte, Bool.not_true, Nat.reduceEqDiff, Nat.reduceLT, and_self, true_and, Int.zero_add, Int.natCast_nonneg, Int.natCast_inj]
      (repeat refine OrH.l ?_)
      refine cdK_dec (fun he => ?_) (fun he => ?_)
      · simp (implicitDefEqProofs := false) (dsimp := false) only [↓aw_reg, ↓Qseq_n, ↓Qblk_n, ↓ops_nil, ↓ops_cons, ↓eval_tmp, ↓eval_int, ↓put_some, ↓binE_i, ↓bi_add, ↓in_i64, ↓op_move, ↓op_assign, ↓op_bin, List.getD_cons_zero, List.getD_cons_succ, List.set_cons_zero, List.set_cons_succ, Nat.reduceAdd, Nat.reduceSub, Nat.reduceMul, evK_go, reduceIte, Nat.reduceEqDiff, Nat.reduceLT]
        refine ⟨by omega, by omega, k + 1, by omega, by omega, ?_⟩
        refine Wkn.of [] [] ?_; simp (implicitDefEqProofs := false) (dsimp := false) only [fo.new k hkm he, List.set_cons_zero, List.set_cons_succ, Bool.and_self, Nat.reduceAdd, Nat.reduceSub, Nat.reduceMul, List.replicate, evK_go, reduceIte, Nat.reduceEqDiff, Nat.reduceLT, and_self, List.foldl_cons, List.foldl_nil, Int.cast_ofNat_Int, Int.natCast_add, slots, wkL_nil, wkL_cons, wkB_nil, wkR_nil, wkV_j, wkV_d, frz_d, reduceCtorEq]
      · simp (implicitDefEqProofs := false) (dsimp := false) only [↓aw_skip, ↓aw_reg, ↓Qseq_n, ↓Qblk_n, ↓ops_nil, ↓ops_cons, ↓eval_tmp, ↓eval_int, ↓put_some, ↓binE_i, ↓bi_add, ↓in_i64, ↓op_move, ↓op_assign, ↓op_bin, List.getD_cons_zero, List.getD_cons_succ, List.set_cons_zero, List.set_cons_succ, Nat.reduceAdd, Nat.reduceSub, Nat.reduceMul, evK_go, reduceIte, Nat.reduceEqDiff, Nat.reduceLT]
        refine ⟨by omega, k + 1, by omega, by omega, ?_⟩
        refine Wkn.of [] [] ?_; simp (implicitDefEqProofs := false) (dsimp := false) only [fo.old k hkm he, List.set_cons_zero, List.set_cons_succ, Bool.and_self, Nat.reduceAdd, Nat.reduceSub, Nat.reduceMul, List.replicate, evK_go, reduceIte, Nat.reduceEqDiff, Nat.reduceLT, and_self, List.foldl_cons, List.foldl_nil, Int.cast_ofNat_Int, Int.natCast_add, slots, wkL_nil, wkL_cons, wkB_nil, wkR_nil, wkV_j, wkV_d, frz_d, reduceCtorEq]
    · obtain rfl : k = m := by omega
      have cx := closeW g1
      rw [Int.toNat_natCast] at cx
      obtain ⟨M, hM⟩ : ∃ M, M = closeAll n l := ⟨_, rfl⟩
      obtain ⟨X, hX⟩ : ∃ X, X = closeAll (R k : Int) F := ⟨_, rfl⟩
      rw [← hM] at cw ways
      rw [← hX] at cx ways
      have hMl : M.length = k := cw.len
      have hXl : X.length = R k := cx.len
      have hF62 : F.length < 2 ^ 62 := by omega
      have hek : ¬ ((k : Int) ≠ n) := by omega
      have lt := fo.lt
      have hOl := fo.len
      generalize hr : R k = r at *
      subst e0
      simp (implicitDefEqProofs := false) (dsimp := false) only [order_call, call_call, fold_call, elines_call, hF62, hl62, hc, g1, g2, g3, lnN_int, g4, ← hM, ← hX, hMl, hXl, List.length_range, eval_nilI, ↓er_neq, ↓cdK_false, ↓gdK_f, ↓gval_mk, ↓gvL_zero, ↓gvL_succ, ↓nthK_H, ↓nthH_zero, ↓nthH_succ, ↓aw_cond, ↓aw_seq, ↓aw_block, ↓aw_exit, ↓aw_skip, ↓aw_loop, ↓aw_reg, ↓Qseq_n, ↓Qseq_x, ↓Qblk_x, ↓ops_nil, ↓ops_cons, ↓ops_guard, ↓eval_tmp, ↓eval_int, ↓eval_func, ↓put_some, ↓bK_b, ↓lenK_l, ↓tK_t, ↓binE_i, ↓bi_neq, ↓op_move, ↓op_assign, ↓op_pick, ↓op_bin, ↓op_not, ↓op_extract, ↓op_len, ↓op_call, isD_d, ↓fnK_f, ↓call_H, ↓callK_H, ↓allT_nil, ↓allT_cons, ↓td_d, ↓st_tm, ↓sl28, ↓sl44, List.getD_cons_zero, List.getD_cons_succ, List.set_cons_zero, List.set_cons_succ, List.append_nil, List.length_map, List.all_cons, List.all_nil, Bool.true_and, Bool.and_self, Bool.true_or, Nat.reduceAdd, Nat.reduceSub, Nat.reduceMul, evK_go, reduceIte, decide_true, decide_false, Bool.not_true, Nat.reduceEqDiff, Nat.reduceLT, and_self, true_and, Nat.lt_irrefl, Int.ofNat_lt]
      (repeat refine OrH.l ?_)
      refine loopW (fun i : Nat => { tm := slots 190 [(0, .d (I .i64 (k : Int))), (6, .d (.l (O.map nD))), (9, .d (I .i64 (r : Int))), (13, .d (.l (X.map liD))), (15, .d (.l (M.map liD))), (17, .d (.l ((List.range r).map nD))), (20, .d (I .i64 i))], bx := [], rw := [] })
        (fun i => i ≤ r) (fun i => r - i) 0 (by simp) ?_ ?_
      · refine Wkn.of [] [] ?_; simp (implicitDefEqProofs := false) (dsimp := false) only [List.set_cons_zero, List.set_cons_succ, Bool.and_self, Nat.reduceAdd, Nat.reduceSub, Nat.reduceMul, List.replicate, evK_go, reduceIte, Nat.reduceEqDiff, Nat.reduceLT, and_self, List.foldl_cons, List.foldl_nil, Int.cast_ofNat_Int, slots, wkL_nil, wkL_cons, wkB_nil, wkR_nil, wkV_j, wkV_d, frz_d, reduceCtorEq]
      · intro i hi
        simp (implicitDefEqProofs := false) (dsimp := false) only [slots, ↓aw_cond, ↓aw_seq, ↓aw_reg, ↓Qseq_n, ↓ops_nil, ↓ops_cons, ↓eval_tmp, ↓put_some, ↓bK_b, ↓binE_i, ↓bi_lss, ↓op_move, ↓op_bin, List.getD_cons_zero, List.getD_cons_succ, List.set_cons_zero, List.set_cons_succ, Nat.reduceAdd, Nat.reduceSub, Nat.reduceMul, List.replicate, evK_go, reduceIte, Nat.reduceEqDiff, Nat.reduceLT, List.foldl_cons, List.foldl_nil, Int.ofNat_lt]
        refine cdK_dec (fun h1 => ?_) (fun h1 => ?_)
        · have hrg : (List.range r).getD i default = i := by rw [List.getD_eq_getElem?_getD, List.getElem?_range h1]; rfl
          simp (implicitDefEqProofs := false) (dsimp := false) only [h1, nD, List.length_range, hrg, ↓cdK_false, ↓atK_H, ↓atH_map, ↓aw_cond, ↓aw_seq, ↓aw_block, ↓aw_skip, ↓aw_reg, ↓Qseq_n, ↓Qblk_n, ↓ops_nil, ↓ops_cons, ↓eval_tmp, ↓eval_int, ↓put_some, ↓bK_b, ↓iK_i, ↓binE_i, ↓bi_add, ↓bi_neq, ↓in_i64, ↓ldK_q, ↓iaK_l, ↓op_move, ↓op_assign, ↓op_load, ↓op_bin, ↓op_ia, ↓cells_c, ↓hd_cons, ↓ty3, ↓sl28, List.getD_cons_zero, List.getD_cons_succ, List.set_cons_zero, List.set_cons_succ, List.length_cons, List.length_nil, Bool.true_and, Nat.reduceAdd, Nat.reduceSub, Nat.reduceMul, Nat.zero_add, Int.toNat_natCast, evK_go, reduceIte, decide_true, Bool.not_true, Nat.reduceEqDiff, Nat.reduceLT, true_and, Int.zero_add, Int.natCast_nonneg]
          refine ⟨by omega, i + 1, by omega, by omega, ?_⟩
          refine Wkn.of [] [] ?_; simp (implicitDefEqProofs := false) (dsimp := false) only [List.set_cons_zero, List.set_cons_succ, Bool.and_self, Nat.reduceAdd, Nat.reduceSub, Nat.reduceMul, List.replicate, evK_go, reduceIte, Nat.reduceEqDiff, Nat.reduceLT, and_self, List.foldl_cons, List.foldl_nil, Int.cast_ofNat_Int, Int.natCast_add, slots, wkL_nil, wkL_cons, wkB_nil, wkR_nil, wkV_j, wkV_d, frz_d, reduceCtorEq]
        · simp (implicitDefEqProofs := false) (dsimp := false) only [↓aw_seq, ↓aw_block, ↓aw_exit, ↓aw_loop, ↓aw_reg, ↓Qseq_n, ↓Qseq_x, ↓Qblk_x, ↓ops_nil, ↓ops_cons, ↓eval_int, ↓put_some, ↓op_assign, List.set_cons_zero, List.set_cons_succ, Nat.reduceAdd, Nat.reduceSub, Nat.reduceMul, evK_go, reduceIte, Nat.reduceEqDiff, Nat.reduceLT]
          refine loopW (fun a : Nat => { tm := slots 190 [(0, .d (I .i64 (k : Int))), (6, .d (.l (O.map nD))), (13, .d (.l (X.map liD))), (15, .d (.l (M.map liD))), (21, .d (I .i64 a))], bx := [], rw := [] })
            (fun a => a ≤ k) (fun a => k - a) 0 (by simp) ?_ ?_
          · refine Wkn.of [] [] ?_; simp (implicitDefEqProofs := false) (dsimp := false) only [List.set_cons_zero, List.set_cons_succ, Bool.and_self, Nat.reduceAdd, Nat.reduceSub, Nat.reduceMul, List.replicate, evK_go, reduceIte, Nat.reduceEqDiff, Nat.reduceLT, and_self, List.foldl_cons, List.foldl_nil, Int.cast_ofNat_Int, slots, wkL_nil, wkL_cons, wkB_nil, wkR_nil, wkV_j, wkV_d, frz_d, reduceCtorEq]
          · intro a ha
            simp (implicitDefEqProofs := false) (dsimp := false) only [slots, ↓aw_cond, ↓aw_seq, ↓aw_reg, ↓Qseq_n, ↓ops_nil, ↓ops_cons, ↓eval_tmp, ↓put_some, ↓bK_b, ↓binE_i, ↓bi_lss, ↓op_move, ↓op_bin, List.getD_cons_zero, List.getD_cons_succ, List.set_cons_zero, List.set_cons_succ, Nat.reduceAdd, Nat.reduceSub, Nat.reduceMul, List.replicate, evK_go, reduceIte, Nat.reduceEqDiff, Nat.reduceLT, List.foldl_cons, List.foldl_nil, Int.ofNat_lt]
            refine cdK_dec (fun h2 => ?_) (fun h2 => ?_)
            · simp (implicitDefEqProofs := false) (dsimp := false) only [↓aw_seq, ↓aw_block, ↓aw_skip, ↓aw_loop, ↓aw_reg, ↓Qseq_n, ↓ops_nil, ↓ops_cons, ↓eval_int, ↓put_some, ↓op_assign, List.set_cons_zero, List.set_cons_succ, Nat.reduceAdd, Nat.reduceSub, Nat.reduceMul, evK_go, reduceIte, Nat.reduceEqDiff, Nat.reduceLT]
              refine loopW (fun b : Nat => { tm := slots 190 [(0, .d (I .i64 (k : Int))), (6, .d (.l (O.map nD))), (13, .d (.l (X.map liD))), (15, .d (.l (M.map liD))), (21, .d (I .i64 a)), (22, .d (I .i64 b))], bx := [], rw := [] })
                (fun b => b ≤ k) (fun b => k - b) 0 (by simp) ?_ ?_
              · refine Wkn.of [] [] ?_; simp (implicitDefEqProofs := false) (dsimp := false) only [List.set_cons_zero, List.set_cons_succ, Bool.and_self, Nat.reduceAdd, Nat.reduceSub, Nat.reduceMul, List.replicate, evK_go, reduceIte, Nat.reduceEqDiff, Nat.reduceLT, and_self, List.foldl_cons, List.foldl_nil, Int.cast_ofNat_Int, slots, wkL_nil, wkL_cons, wkB_nil, wkR_nil, wkV_j, wkV_d, frz_d, reduceCtorEq]
              · intro b hb
                simp (implicitDefEqProofs := false) (dsimp := false) only [slots, ↓aw_cond, ↓aw_seq, ↓aw_reg, ↓Qseq_n, ↓ops_nil, ↓ops_cons, ↓eval_tmp, ↓put_some, ↓bK_b, ↓binE_i, ↓bi_lss, ↓op_move, ↓op_bin, List.getD_cons_zero, List.getD_cons_succ, List.set_cons_zero, List.set_cons_succ, Nat.reduceAdd, Nat.reduceSub, Nat.reduceMul, List.replicate, evK_go, reduceIte, Nat.reduceEqDiff, Nat.reduceLT, List.foldl_cons, List.foldl_nil, Int.ofNat_lt]
                refine cdK_dec (fun h3 => ?_) (fun h3 => ?_)
                · have h2' : a < k := by omega
                  have h3' : b < k := by omega
                  have hsa : (M.getD a default).length < 2 ^ 62 := by have := cw.sz a; omega
                  have hsx : (X.getD (O.getD a default) default).length < 2 ^ 62 := by have := cx.sz (O.getD a default); omega
                  have hlx := lt a h2'
                  simp (implicitDefEqProofs := false) (dsimp := false) only [h2', h3', hOl, nD, ↓cdK_not, ↓gdK_t, ↓gval_mk, ↓gvL_zero, ↓gvL_succ, ↓atK_H, ↓atH_map, ↓aw_seq, ↓aw_block, ↓aw_skip, ↓aw_draw, ↓Qseq_n, ↓eval_tmp, ↓put_some, ↓iK_i, ↓ev_move, ↓ev_load, ↓ev_bin, ↓ev_ia, ↓binE_i, ↓bi_neq, ↓ldK_q, ↓iaK_l, ↓draw_H, ↓h_cons, ↓ldH_n, ↓ldH_g, ↓q_move, ↓q_load, ↓q_bin, ↓q_ia, ↓il_move, ↓il_load, ↓il_bin, ↓il_ia, ↓st_tm, ↓cells_c, ↓hd_cons, ↓ty3, ↓sl28, List.getD_cons_zero, List.getD_cons_succ, List.set_cons_zero, List.set_cons_succ, List.length_cons, List.length_nil, Bool.true_and, Nat.reduceAdd, Nat.reduceSub, Nat.reduceMul, Nat.zero_add, Int.toNat_natCast, evK_go, reduceIte, decide_true, Nat.reduceEqDiff, Nat.reduceLT, true_and, Int.zero_add, Int.natCast_nonneg, Int.natCast_inj]
                  refine OrH.l ⟨DrawH.of follows_mixed (by kernel_rfl), cdK_dec (fun he => ?_) (fun he => ?_)⟩
                  · simp (implicitDefEqProofs := false) (dsimp := false) only [he, ↓cdK_false, ↓gdK_t, ↓gval_mk, ↓gvL_zero, ↓gvL_succ, ↓aw_cond, ↓aw_skip, ↓aw_reg, ↓Qseq_n, ↓Qblk_n, ↓ops_nil, ↓ops_cons, ↓eval_tmp, ↓eval_int, ↓eval_bool, ↓put_some, ↓bK_b, ↓ev_pick, ↓binE_i, ↓bi_add, ↓in_i64, ↓op_move, ↓op_assign, ↓op_bin, ↓h_nil, ↓h_cons, ↓ldH_n, ↓ldH_g, ↓q_pick, ↓il_move, ↓il_pick, ↓il_load, ↓il_bin, ↓il_ia, ↓il_call, ↓st_tm, List.getD_cons_zero, List.getD_cons_succ, List.set_cons_zero, List.set_cons_succ, Nat.reduceAdd, Nat.reduceSub, Nat.reduceMul, evK_go, reduceIte, decide_true, Bool.not_true, Nat.reduceEqDiff, Nat.reduceLT]
                    refine ⟨by omega, b + 1, by omega, by omega, ?_⟩
                    refine Wkn.of [] [] ?_; simp (implicitDefEqProofs := false) (dsimp := false) only [List.set_cons_zero, List.set_cons_succ, Bool.and_self, Nat.reduceAdd, Nat.reduceSub, Nat.reduceMul, List.replicate, evK_go, reduceIte, Nat.reduceEqDiff, Nat.reduceLT, and_self, List.foldl_cons, List.foldl_nil, Int.cast_ofNat_Int, Int.natCast_add, slots, wkL_nil, wkL_cons, wkB_nil, wkR_nil, wkV_j, wkV_d, frz_d, reduceCtorEq]
                  · have hw := ways a b h2' h3' he
                    by_cases hb : (b : Int) ∈ M.getD a default
                    · have hb' := hw.1 hb
                      simp (implicitDefEqProofs := false) (dsimp := false) only [he, h2', h3', hOl, hMl, hXl, hlx, nD, liD, hasR_callQ, hsa, hsx, hb, hb', beq_self_eq_true, ↓bo_neq, ↓cdK_true, ↓cdK_false, ↓gdK_t, ↓gval_mk, ↓gvL_zero, ↓gvL_succ, ↓atK_H, ↓atH_map, ↓aw_cond, ↓aw_skip, ↓aw_reg, ↓Qseq_n, ↓Qblk_n, ↓ops_nil, ↓ops_cons, ↓eval_tmp, ↓eval_int, ↓eval_func, ↓put_some, ↓bK_b, ↓iK_i, ↓ev_move, ↓ev_pick, ↓ev_load, ↓ev_bin, ↓ev_ia, ↓binE_i, ↓bi_add, ↓in_i64, ↓ldK_q, ↓iaK_l, ↓op_move, ↓op_assign, ↓op_bin, isD_d, ↓fnK_f, ↓callKQ_H, ↓allT_nil, ↓allT_cons, ↓td_d, ↓h_nil, ↓h_cons, ↓ldH_n, ↓ldH_g, ↓q_call, ↓q_move, ↓q_pick, ↓q_load, ↓q_bin, ↓q_ia, ↓il_move, ↓il_pick, ↓il_load, ↓il_bin, ↓il_ia, ↓il_call, ↓st_tm, ↓cells_c, ↓cells_l, ↓hd_cons, ↓ty3, ↓ty28, ↓sl28, ↓sl44, List.getD_cons_zero, List.getD_cons_succ, List.set_cons_zero, List.set_cons_succ, List.append_nil, List.length_cons, List.length_nil, List.all_cons, List.all_nil, Bool.true_and, Bool.and_self, Bool.true_or, Nat.reduceAdd, Nat.reduceSub, Nat.reduceMul, Nat.zero_add, Int.toNat_natCast, evK_go, reduceIte, decide_true, decide_false, Bool.not_true, Bool.not_false, Nat.reduceEqDiff, Nat.reduceLT, and_self, true_and, Int.zero_add, Int.natCast_nonneg]
                      (repeat refine OrH.l ?_)
                      refine ⟨by omega, b + 1, by omega, by omega, ?_⟩
                      refine Wkn.of [] [] ?_; simp (implicitDefEqProofs := false) (dsimp := false) only [List.set_cons_zero, List.set_cons_succ, Bool.and_self, Nat.reduceAdd, Nat.reduceSub, Nat.reduceMul, List.replicate, evK_go, reduceIte, Nat.reduceEqDiff, Nat.reduceLT, and_self, List.foldl_cons, List.foldl_nil, Int.cast_ofNat_Int, Int.natCast_add, slots, wkL_nil, wkL_cons, wkB_nil, wkR_nil, wkV_j, wkV_d, frz_d, reduceCtorEq]
                    · have hb' : ¬ ((O.getD b default : Nat) : Int) ∈ X.getD (O.getD a default) default := fun h => hb (hw.2 h)
                      simp (implicitDefEqProofs := false) (dsimp := false) only [he, h2', h3', hOl, hMl, hXl, hlx, nD, liD, hasR_callQ, hsa, hsx, hb, hb', beq_self_eq_true, ↓bo_neq, ↓cdK_true, ↓cdK_false, ↓gdK_t, ↓gval_mk, ↓gvL_zero, ↓gvL_succ, ↓atK_H, ↓atH_map, ↓aw_cond, ↓aw_skip, ↓aw_reg, ↓Qseq_n, ↓Qblk_n, ↓ops_nil, ↓ops_cons, ↓eval_tmp, ↓eval_int, ↓eval_func, ↓put_some, ↓bK_b, ↓iK_i, ↓ev_move, ↓ev_pick, ↓ev_load, ↓ev_bin, ↓ev_ia, ↓binE_i, ↓bi_add, ↓in_i64, ↓ldK_q, ↓iaK_l, ↓op_move, ↓op_assign, ↓op_bin, isD_d, ↓fnK_f, ↓callKQ_H, ↓allT_nil, ↓allT_cons, ↓td_d, ↓h_nil, ↓h_cons, ↓ldH_n, ↓ldH_g, ↓q_call, ↓q_move, ↓q_pick, ↓q_load, ↓q_bin, ↓q_ia, ↓il_move, ↓il_pick, ↓il_load, ↓il_bin, ↓il_ia, ↓il_call, ↓st_tm, ↓cells_c, ↓cells_l, ↓hd_cons, ↓ty3, ↓ty28, ↓sl28, ↓sl44, List.getD_cons_zero, List.getD_cons_succ, List.set_cons_zero, List.set_cons_succ, List.append_nil, List.length_cons, List.length_nil, List.all_cons, List.all_nil, Bool.true_and, Bool.and_self, Bool.true_or, Nat.reduceAdd, Nat.reduceSub, Nat.reduceMul, Nat.zero_add, Int.toNat_natCast, evK_go, reduceIte, decide_false, Bool.not_true, Bool.not_false, Nat.reduceEqDiff, Nat.reduceLT, and_self, true_and, Int.zero_add, Int.natCast_nonneg]
                      (repeat refine OrH.l ?_)
                      refine ⟨by omega, b + 1, by omega, by omega, ?_⟩
                      refine Wkn.of [] [] ?_; simp (implicitDefEqProofs := false) (dsimp := false) only [List.set_cons_zero, List.set_cons_succ, Bool.and_self, Nat.reduceAdd, Nat.reduceSub, Nat.reduceMul, List.replicate, evK_go, reduceIte, Nat.reduceEqDiff, Nat.reduceLT, and_self, List.foldl_cons, List.foldl_nil, Int.cast_ofNat_Int, Int.natCast_add, slots, wkL_nil, wkL_cons, wkB_nil, wkR_nil, wkV_j, wkV_d, frz_d, reduceCtorEq]
                · simp (implicitDefEqProofs := false) (dsimp := false) only [↓aw_seq, ↓aw_exit, ↓aw_ret, ↓aw_reg, ↓Qseq_n, ↓Qseq_x, ↓Qblk_n, ↓Qblk_x, ↓Qret_r, ↓ops_nil, ↓ops_cons, ↓eval_tmp, ↓eval_int, ↓eval_bool, ↓put_some, ↓binE_i, ↓bi_add, ↓in_i64, ↓op_move, ↓op_assign, ↓op_bin, ↓td_d, ↓ret_1, List.getD_cons_zero, List.getD_cons_succ, List.set_cons_zero, List.set_cons_succ, Nat.reduceAdd, Nat.reduceSub, Nat.reduceMul, evK_go, reduceIte, Nat.reduceEqDiff, Nat.reduceLT]
                  refine ⟨by omega, a + 1, by omega, by omega, ?_⟩
                  refine Wkn.of [] [] ?_; simp (implicitDefEqProofs := false) (dsimp := false) only [List.set_cons_zero, List.set_cons_succ, Bool.and_self, Nat.reduceAdd, Nat.reduceSub, Nat.reduceMul, List.replicate, evK_go, reduceIte, Nat.reduceEqDiff, Nat.reduceLT, and_self, List.foldl_cons, List.foldl_nil, Int.cast_ofNat_Int, Int.natCast_add, slots, wkL_nil, wkL_cons, wkB_nil, wkR_nil, wkV_j, wkV_d, frz_d, reduceCtorEq]
            · simp (implicitDefEqProofs := false) (dsimp := false) only [↓aw_seq, ↓aw_exit, ↓aw_ret, ↓aw_reg, ↓Qseq_n, ↓Qseq_x, ↓Qblk_x, ↓Qret_r, ↓ops_nil, ↓ops_cons, ↓eval_tmp, ↓eval_bool, ↓put_some, ↓op_assign, ↓td_d, ↓ret_1, List.getD_cons_zero, List.getD_cons_succ, List.set_cons_zero, List.set_cons_succ, Nat.reduceAdd, Nat.reduceSub, Nat.reduceMul, evK_go, reduceIte, Nat.reduceEqDiff, Nat.reduceLT]
end Go.Proofs

namespace Go.Proofs
set_option maxRecDepth 100000
theorem cutNo : ("cut".toList == "gc".toList || "cut".toList == "spec".toList) = false := by kernel_rfl
theorem cutNo2 : ("cut".toList == "carried".toList) = false := by kernel_rfl
theorem cutStrip (T : List (List Char)) : stripLifts liftWords ("cut".toList :: T) = ([], "cut".toList :: T) := by kernel_rfl
theorem make_of {P : Program} {T : List (List Char)} (h : behindMainWord (wordsSigns P.initOrder.toList) = "cut".toList :: T) : P.make = some .cut := by
  unfold Program.make
  rw [h]
  simp (implicitDefEqProofs := false) (dsimp := false) only [cutNo, beq_self_eq_true, Bool.true_or, Bool.false_eq_true, if_false, if_true]
theorem enter_of {P : Program} {T : List (List Char)} (h : behindMainWord (wordsSigns P.initOrder.toList) = "cut".toList :: T) (h1 : P.laysLater = false) (h2 : P.bearsReflect = false) (h3 : P.doorRows = []) : P.mayEnter = true := by
  unfold Program.mayEnter
  rw [h]
  simp (implicitDefEqProofs := false) (dsimp := false) only [cutStrip, cutNo, cutNo2, h1, h2, Program.doorFits, h3, List.head?_cons, beq_self_eq_true, Bool.not_false, Bool.or_true, Bool.and_true, Bool.true_and]
  rfl
theorem final_of {P : Program} {T : List (List Char)} (h : behindMainWord (wordsSigns P.initOrder.toList) = "cut".toList :: T) : P.liftsFinal = false := by
  unfold Program.liftsFinal Program.headLifts
  rw [h]
  simp (implicitDefEqProofs := false) (dsimp := false) only [cutStrip]
  kernel_rfl
theorem cutWord : behindMainWord (wordsSigns Try.prog.initOrder.toList) = "cut".toList :: (behindMainWord (wordsSigns Try.prog.initOrder.toList)).tail := by
  have h : Try.prog.initOrder.toList = _ := String.toList_ofList
  rw [h]
  show (_ : List (List Char)) = _
  kernel_rfl
theorem pLater : Try.prog.laysLater = false := by
  unfold Program.laysLater
  rw [← Array.any_toList]
  kernel_rfl
theorem pReflect : Try.prog.bearsReflect = false := by kernel_rfl
theorem pDoor : Try.prog.doorRows = [] := by kernel_rfl
theorem pMake : Try.prog.make = some .cut := make_of cutWord
theorem pEnter : Try.prog.mayEnter = true := enter_of cutWord pLater pReflect pDoor
theorem pFinal : Try.prog.liftsFinal = false := final_of cutWord
theorem pLaid : laidOutB Try.prog = true := by kernel_rfl
theorem pRowed : mapsRowed Try.prog = true := by kernel_rfl
theorem pStops : (Try.prog.stops == []) = true := by kernel_rfl
theorem pKnobs : (Try.prog.stopKnobs == []) = true := by kernel_rfl
theorem pHeard : Try.prog.stopsHeard = true := by kernel_rfl
theorem pOwn : ownKnob Try.prog.godebug = none := by kernel_rfl
theorem andB {a b : Bool} (ha : a = true) (hb : b = true) : (a && b) = true := by rw [ha, hb]; rfl
end Go.Proofs
