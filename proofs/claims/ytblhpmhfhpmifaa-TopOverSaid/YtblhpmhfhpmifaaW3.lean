/- Part W 3 of what the proof of TopOver stands on: what the functions of the program compute. -/
import Derived.Test.YtblhpmhfhpmifaaW2
set_option linter.unusedVariables false
set_option linter.unusedSimpArgs false
namespace Go.Proofs
open Go.Aw
set_option linter.unusedSimpArgs false
set_option maxRecDepth 10000
/-- The lines that keep off a point. -/
def offI (l : List (Int × Int)) (k : Int) : List (Int × Int) := l.filter fun p => !decide (p.1 = k) && !decide (p.2 = k)
theorem offI_succ {l : List (Int × Int)} (k : Int) {i : Nat} (h : i < l.length) : offI (l.take (i + 1)) k = offI (l.take i) k ++ (if !decide ((l.getD i default).1 = k) && !decide ((l.getD i default).2 = k) then [l.getD i default] else []) := by
  rw [take_succ_getD h]
  unfold offI
  rw [List.filter_append]
  simp [List.filter_cons]
theorem offI_len (l : List (Int × Int)) (k : Int) : (offI l k).length ≤ l.length := List.length_filter_le _ _
theorem offI_nat {l : List (Int × Int)} (hl : ∀ p ∈ l, 0 ≤ p.1 ∧ 0 ≤ p.2) (k : Nat) : natL (offI l (k : Int)) = offL (natL l) k := by
  unfold natL offI offL
  rw [List.filter_map]
  congr 1
  refine List.filter_congr fun p hp => ?_
  have := hl p hp
  have e1 : (p.1.toNat = k) ↔ (p.1 = (k : Int)) := by omega
  have e2 : (p.2.toNat = k) ↔ (p.2 = (k : Int)) := by omega
  simp [Function.comp, natP, e1, e2]
theorem lDomCut_spec (n : Int) (l : List (Int × Int)) (f to k : Int) (_hn : -9223372036854775808 ≤ n ∧ n ≤ 9223372036854775807) (hpre : l.length < 2 ^ 43) (_hf : -9223372036854775808 ≤ f ∧ f ≤ 9223372036854775807)
    (_ht : -9223372036854775808 ≤ to ∧ to ≤ 9223372036854775807) (_hk : -9223372036854775808 ≤ k ∧ k ≤ 9223372036854775807) : FnD Try.prog 17 [I .i64 n, .l (l.map lnD), I .i64 f, I .i64 to, I .i64 k] (Bo true) := by
  have hl62 : l.length < 2 ^ 62 := by omega
  refine FnD.go Try.func17 rfl rfl Try.results17 Try.ntmps17 ?_
  simp (implicitDefEqProofs := false) (dsimp := false) only [↓aw_seq, ↓aw_reg, ↓Qseq_n, ↓ops_nil, ↓ops_cons, ↓eval_bool, ↓eval_func, ↓put_some, ↓op_assign, ↓op_call, isD_d, ↓fnK_f, ↓call_H, ↓callK_H, ↓allT_nil, ↓td_d, List.set_cons_zero, List.set_cons_succ, List.cons_append, List.nil_append, List.append_nil, List.map_cons, List.map_nil, List.length_cons, List.length_nil, List.all_nil, Bool.and_self, Nat.reduceAdd, Nat.reduceSub, Nat.reduceMul, Nat.zero_add, List.replicate, evK_go, reduceIte, Nat.reduceEqDiff, Nat.reduceLT, and_self, Int.zero_add]
  simp (implicitDefEqProofs := false) (dsimp := false) only [dfact_call, dof_call, hl62, eval_nilI, ↓er_neq, ↓cdK_false, ↓cdK_not, ↓nthK_H, ↓nthH_zero, ↓nthH_succ, ↓aw_cond, ↓aw_seq, ↓aw_skip, ↓aw_reg, ↓Qseq_n, ↓ops_nil, ↓ops_cons, ↓eval_tmp, ↓eval_func, ↓put_some, ↓bK_b, ↓tK_t, ↓op_move, ↓op_assign, ↓op_bin, ↓op_not, ↓op_extract, ↓op_call, isD_d, ↓fnK_f, ↓call_H, ↓callK_H, ↓allT_nil, ↓allT_cons, ↓td_d, List.getD_cons_zero, List.getD_cons_succ, List.set_cons_zero, List.set_cons_succ, List.append_nil, List.all_cons, List.all_nil, Bool.true_and, Bool.and_self, Bool.true_or, Nat.reduceAdd, Nat.reduceSub, Nat.reduceMul, evK_go, reduceIte, Bool.not_true, Nat.reduceEqDiff, Nat.reduceLT, and_self, true_and]
  (repeat refine OrH.l ?_)
  refine cdK_dec (fun hc => ?_) (fun hc => ?_)
  rotate_left
  · have e1 : domOf n l f = [] := if_neg hc
    simp (implicitDefEqProofs := false) (dsimp := false) only [e1, ↓aw_seq, ↓aw_ret, ↓aw_reg, ↓Qseq_n, ↓Qseq_r, ↓Qret_r, ↓ops_nil, ↓ops_cons, ↓eval_tmp, ↓eval_int, ↓put_some, ↓lenK_l, ↓binE_i, ↓bi_eql, ↓op_move, ↓op_assign, ↓op_bin, ↓op_len, ↓td_d, ↓ret_1, ↓sl44, List.getD_cons_zero, List.getD_cons_succ, List.set_cons_zero, List.set_cons_succ, List.map_nil, List.length_nil, Nat.reduceAdd, Nat.reduceSub, Nat.reduceMul, evK_go, reduceIte, decide_true, Nat.reduceEqDiff, Nat.reduceLT, Int.cast_ofNat_Int]
  obtain ⟨hc0, dw⟩ := domW hc
  have ok := chk_ok hc0
  have hX : ∀ z : Nat, k = (z : Int) → f ≠ k → domE n (offI l k) f = 0 := fun z hz hfk => by
    have h1 : chk n (offI l k) = 0 := chk_sub hc0 (by have := offI_len l k; have := ok.len; omega) fun p hp => (List.mem_filter.1 hp).1
    unfold domE at hc ⊢
    rw [if_pos hc0] at hc
    rw [if_pos h1]; exact hc
  have hrng := ok.rng
  have h24 := ok.len
  generalize hM : domOf n l f = M at dw ⊢
  generalize hm : n.toNat = m at dw
  generalize hx : f.toNat = x at dw
  have e0 := dw.n0
  have h8 := dw.hi
  have hlo := dw.lo
  have hML : ((M.length : Nat) : Int) = n := by rw [dw.len, e0]
  have hinf : inB f 0 (n - 1) = true := inB_iff.2 ⟨by have := dw.f0; omega, by have := dw.f0; have := dw.fm; omega⟩
  have hs62 : ∀ i : Nat, (M.getD i default).length < 2 ^ 62 := fun i => by have := dw.sz i; omega
  simp (implicitDefEqProofs := false) (dsimp := false) only [hML, in2_call, ↓cdK_false, ↓cdK_not, ↓gdK_f, ↓gval_mk, ↓gvL_zero, ↓gvL_succ, ↓aw_seq, ↓aw_skip, ↓aw_reg, ↓Qseq_n, ↓ops_cons, ↓ops_guard, ↓eval_tmp, ↓eval_int, ↓eval_func, ↓put_some, ↓bK_b, ↓lenK_l, ↓binE_i, ↓bi_sub, ↓bi_neq, ↓in_i64, ↓op_move, ↓op_pick, ↓op_bin, ↓op_not, ↓op_len, ↓op_call, isD_d, ↓fnK_f, ↓call_H, ↓callK_H, ↓allT_nil, ↓allT_cons, ↓td_d, ↓st_tm, ↓sl44, List.getD_cons_zero, List.getD_cons_succ, List.set_cons_zero, List.set_cons_succ, List.append_nil, List.length_map, List.all_cons, List.all_nil, Bool.true_and, Bool.and_self, Bool.true_or, Nat.reduceAdd, Nat.reduceSub, Nat.reduceMul, evK_go, reduceIte, decide_true, Bool.not_true, Nat.reduceEqDiff, Nat.reduceLT, and_self, true_and]
  refine ⟨by omega, ?_⟩
  (repeat refine OrH.l ?_)
  refine cdK_split (fun hA => ?_) (fun hA => ?_)
  rotate_left
  · simp (implicitDefEqProofs := false) (dsimp := false) only [hA, hML, ↓cdK_true, ↓gdK_f, ↓gval_mk, ↓gvL_zero, ↓gvL_succ, ↓aw_cond, ↓aw_seq, ↓aw_ret, ↓aw_reg, ↓Qseq_n, ↓Qseq_r, ↓Qret_r, ↓ops_nil, ↓ops_cons, ↓ops_guard, ↓eval_tmp, ↓eval_bool, ↓put_some, ↓bK_b, ↓lenK_l, ↓binE_i, ↓bi_eql, ↓op_move, ↓op_assign, ↓op_pick, ↓op_bin, ↓op_len, ↓td_d, ↓ret_1, ↓st_tm, ↓sl44, List.getD_cons_zero, List.getD_cons_succ, List.set_cons_zero, List.set_cons_succ, List.length_map, Nat.reduceAdd, Nat.reduceSub, Nat.reduceMul, evK_go, reduceIte, decide_true, Bool.not_false, Nat.reduceEqDiff, Nat.reduceLT]
  simp (implicitDefEqProofs := false) (dsimp := false) only [hA, in2_call, ↓cdK_false, ↓cdK_not, ↓gdK_f, ↓gval_mk, ↓gvL_zero, ↓gvL_succ, ↓ops_cons, ↓ops_guard, ↓eval_tmp, ↓eval_int, ↓eval_func, ↓put_some, ↓bK_b, ↓binE_i, ↓bi_sub, ↓in_i64, ↓op_move, ↓op_pick, ↓op_bin, ↓op_not, ↓op_call, isD_d, ↓fnK_f, ↓call_H, ↓callK_H, ↓allT_nil, ↓allT_cons, ↓td_d, ↓st_tm, List.getD_cons_zero, List.getD_cons_succ, List.set_cons_zero, List.set_cons_succ, List.append_nil, List.all_cons, List.all_nil, Bool.true_and, Bool.and_self, Bool.true_or, Nat.reduceAdd, Nat.reduceSub, Nat.reduceMul, evK_go, reduceIte, Bool.not_true, Nat.reduceEqDiff, Nat.reduceLT, and_self, true_and]
  refine ⟨by omega, OrH.l (OrH.l (cdK_split (fun hB => ?_) (fun hB => ?_)))⟩
  rotate_left
  · simp (implicitDefEqProofs := false) (dsimp := false) only [hB, hML, ↓cdK_true, ↓gdK_f, ↓gval_mk, ↓gvL_zero, ↓gvL_succ, ↓aw_cond, ↓aw_seq, ↓aw_ret, ↓aw_reg, ↓Qseq_n, ↓Qseq_r, ↓Qret_r, ↓ops_nil, ↓ops_cons, ↓ops_guard, ↓eval_tmp, ↓eval_bool, ↓put_some, ↓bK_b, ↓lenK_l, ↓binE_i, ↓bi_eql, ↓op_move, ↓op_assign, ↓op_pick, ↓op_bin, ↓op_len, ↓td_d, ↓ret_1, ↓st_tm, ↓sl44, List.getD_cons_zero, List.getD_cons_succ, List.set_cons_zero, List.set_cons_succ, List.length_map, Nat.reduceAdd, Nat.reduceSub, Nat.reduceMul, evK_go, reduceIte, decide_true, Bool.not_false, Nat.reduceEqDiff, Nat.reduceLT]
  simp (implicitDefEqProofs := false) (dsimp := false) only [hB, hinf, in2_call, ↓cdK_false, ↓gdK_f, ↓gval_mk, ↓gvL_zero, ↓gvL_succ, ↓ops_cons, ↓ops_guard, ↓eval_tmp, ↓eval_int, ↓eval_func, ↓put_some, ↓bK_b, ↓binE_i, ↓bi_sub, ↓bi_eql, ↓in_i64, ↓op_move, ↓op_pick, ↓op_bin, ↓op_not, ↓op_call, isD_d, ↓fnK_f, ↓call_H, ↓callK_H, ↓allT_nil, ↓allT_cons, ↓td_d, ↓st_tm, List.getD_cons_zero, List.getD_cons_succ, List.set_cons_zero, List.set_cons_succ, List.append_nil, List.all_cons, List.all_nil, Bool.true_and, Bool.and_self, Bool.true_or, Nat.reduceAdd, Nat.reduceSub, Nat.reduceMul, evK_go, reduceIte, Bool.not_true, Nat.reduceEqDiff, Nat.reduceLT, and_self, true_and]
  refine ⟨by omega, OrH.l (OrH.l (cdK_dec (fun hkf => ?_) (fun hkf => ?_)))⟩
  · have hd : decide (k = f) = true := decide_eq_true hkf
    simp (implicitDefEqProofs := false) (dsimp := false) only [hd, hML, ↓cdK_true, ↓gdK_f, ↓gval_mk, ↓gvL_zero, ↓gvL_succ, ↓aw_cond, ↓aw_seq, ↓aw_ret, ↓aw_reg, ↓Qseq_n, ↓Qseq_r, ↓Qret_r, ↓ops_nil, ↓ops_cons, ↓ops_guard, ↓eval_tmp, ↓eval_bool, ↓put_some, ↓bK_b, ↓lenK_l, ↓binE_i, ↓bi_eql, ↓op_move, ↓op_assign, ↓op_pick, ↓op_bin, ↓op_len, ↓td_d, ↓ret_1, ↓st_tm, ↓sl44, List.getD_cons_zero, List.getD_cons_succ, List.set_cons_zero, List.set_cons_succ, List.length_map, Nat.reduceAdd, Nat.reduceSub, Nat.reduceMul, evK_go, reduceIte, decide_true, Nat.reduceEqDiff, Nat.reduceLT]
  have hd : decide (k = f) = false := decide_eq_false hkf
  simp (implicitDefEqProofs := false) (dsimp := false) only [hd, ↓cdK_false, ↓gdK_f, ↓gval_mk, ↓gvL_zero, ↓gvL_succ, ↓aw_cond, ↓Qseq_n, ↓ops_nil, ↓ops_cons, ↓ops_guard, ↓eval_tmp, ↓put_some, ↓bK_b, ↓binE_i, ↓bi_eql, ↓op_move, ↓op_pick, ↓op_bin, ↓st_tm, List.getD_cons_zero, List.getD_cons_succ, List.set_cons_zero, List.set_cons_succ, Nat.reduceAdd, Nat.reduceSub, Nat.reduceMul, evK_go, reduceIte, Nat.reduceEqDiff, Nat.reduceLT]
  refine cdK_dec (fun hkt => ?_) (fun hkt => ?_)
  · have hd2 : decide (k = to) = true := decide_eq_true hkt
    simp (implicitDefEqProofs := false) (dsimp := false) only [hd2, hML, ↓aw_seq, ↓aw_ret, ↓aw_reg, ↓Qseq_n, ↓Qseq_r, ↓Qret_r, ↓ops_nil, ↓ops_cons, ↓eval_tmp, ↓put_some, ↓lenK_l, ↓binE_i, ↓bi_eql, ↓op_move, ↓op_assign, ↓op_bin, ↓op_len, ↓td_d, ↓ret_1, ↓sl44, List.getD_cons_zero, List.getD_cons_succ, List.set_cons_zero, List.set_cons_succ, List.length_map, Nat.reduceAdd, Nat.reduceSub, Nat.reduceMul, evK_go, reduceIte, decide_true, Nat.reduceEqDiff, Nat.reduceLT]
  have hd2 : decide (k = to) = false := decide_eq_false hkt
  have hA' := hA
  have hB' := hB
  rw [inB_iff] at hA' hB'
  obtain ⟨t, rfl⟩ := Int.eq_ofNat_of_zero_le hA'.1
  obtain ⟨z, rfl⟩ := Int.eq_ofNat_of_zero_le hB'.1
  have htM : t < M.length := by rw [dw.len]; omega
  simp (implicitDefEqProofs := false) (dsimp := false) only [htM, liD, ↓atK_H, ↓atH_map, ↓aw_cond, ↓aw_seq, ↓aw_skip, ↓aw_reg, ↓Qseq_n, ↓ops_nil, ↓ops_cons, ↓eval_tmp, ↓eval_int, ↓put_some, ↓bK_b, ↓iK_i, ↓lenK_l, ↓binE_i, ↓bi_eql, ↓ldK_q, ↓iaK_l, ↓op_move, ↓op_load, ↓op_bin, ↓op_ia, ↓op_len, ↓cells_l, ↓hd_cons, ↓ty28, ↓sl28, ↓sl44, List.getD_cons_zero, List.getD_cons_succ, List.set_cons_zero, List.set_cons_succ, List.length_cons, List.length_nil, List.length_map, Bool.true_and, Nat.reduceAdd, Nat.reduceSub, Nat.reduceMul, Nat.zero_add, Int.toNat_natCast, evK_go, reduceIte, Nat.reduceEqDiff, Nat.reduceLT, true_and, Int.zero_add, Int.natCast_nonneg, Int.natCast_inj]
  refine cdK_dec (fun hz => ?_) (fun hz => ?_)
  · simp (implicitDefEqProofs := false) (dsimp := false) only [hz, ↓aw_seq, ↓aw_ret, ↓aw_reg, ↓Qseq_n, ↓Qseq_r, ↓Qret_r, ↓ops_nil, ↓ops_cons, ↓eval_tmp, ↓eval_bool, ↓put_some, ↓op_assign, ↓td_d, ↓ret_1, List.getD_cons_zero, List.getD_cons_succ, List.set_cons_zero, List.set_cons_succ, Nat.reduceAdd, Nat.reduceSub, Nat.reduceMul, evK_go, reduceIte, decide_true, Nat.reduceEqDiff, Nat.reduceLT]
  simp (implicitDefEqProofs := false) (dsimp := false) only [↓aw_seq, ↓aw_block, ↓aw_skip, ↓aw_loop, ↓aw_reg, ↓Qseq_n, ↓ops_nil, ↓ops_cons, ↓eval_int, ↓eval_nil, ↓put_some, ↓op_assign, List.set_cons_zero, List.set_cons_succ, Nat.reduceAdd, Nat.reduceSub, Nat.reduceMul, evK_go, reduceIte, Nat.reduceEqDiff, Nat.reduceLT]
  refine loopW (fun i : Nat => { tm := slots 136 [(0, .d (I .i64 n)), (1, .d (.l (l.map lnD))), (2, .d (I .i64 f)), (3, .d (I .i64 (t : Int))), (4, .d (I .i64 (z : Int))), (12, .d (.l (M.map liD))), (14, .o 0 0 (offI (l.take i) (z : Int)).length), (15, .d (I .i64 i))], bx := [], rw := [some ⟨2, (offI (l.take i) (z : Int)).map lnD⟩] })
    (fun i => i ≤ l.length) (fun i => l.length - i) 0 (by simp) ?_ ?_
  · refine Wkn.of [] [none] ?_
    simp (implicitDefEqProofs := false) (dsimp := false) only [offI, List.filter_nil, ↓row_xs, List.set_cons_zero, List.set_cons_succ, List.map_nil, List.length_nil, Bool.and_self, Nat.reduceAdd, Nat.reduceSub, Nat.reduceMul, List.replicate, evK_go, reduceIte, Nat.reduceEqDiff, Nat.reduceLT, and_self, List.take_zero, List.foldl_cons, List.foldl_nil, Int.cast_ofNat_Int, slots, wkL_nil, wkL_cons, wkB_nil, wkR_nil, wkR_new, wkV_j, wkV_d, nlK_nl, wkV_o, frz_d, oK_zn, reduceCtorEq]
  · intro i hi
    have hol := offI_len (l.take i) (z : Int)
    rw [List.length_take] at hol
    simp (implicitDefEqProofs := false) (dsimp := false) only [slots, ↓aw_cond, ↓aw_seq, ↓aw_reg, ↓Qseq_n, ↓ops_nil, ↓ops_cons, ↓eval_tmp, ↓put_some, ↓bK_b, ↓lenK_l, ↓binE_i, ↓bi_lss, ↓op_move, ↓op_bin, ↓op_len, ↓sl22, List.getD_cons_zero, List.getD_cons_succ, List.set_cons_zero, List.set_cons_succ, List.length_map, Nat.reduceAdd, Nat.reduceSub, Nat.reduceMul, List.replicate, evK_go, reduceIte, Nat.reduceEqDiff, Nat.reduceLT, List.foldl_cons, List.foldl_nil, Int.ofNat_lt]
    refine cdK_dec (fun h => ?_) (fun h => ?_)
    · have hs := offI_succ (z : Int) h
      simp (implicitDefEqProofs := false) (dsimp := false) only [h, lnD, ↓cdK_not, ↓gdK_t, ↓gval_mk, ↓gvL_zero, ↓gvL_succ, ↓atK_H, ↓atH_map, ↓aw_seq, ↓aw_block, ↓aw_skip, ↓aw_reg, ↓Qseq_n, ↓ops_cons, ↓ops_guard, ↓eval_tmp, ↓put_some, ↓iK_i, ↓binE_i, ↓bi_neq, ↓ldK_q, ↓faK_q, ↓iaK_l, ↓op_move, ↓op_load, ↓op_bin, ↓op_fa, ↓op_ia, ↓st_tm, ↓cells_s, ↓hd_cons, ↓ty3, ↓sl22, ↓ty35, ↓fd35_0, List.getD_cons_zero, List.getD_cons_succ, List.set_cons_zero, List.set_cons_succ, List.length_cons, List.length_nil, Bool.true_and, Nat.reduceAdd, Nat.reduceSub, Nat.reduceMul, Nat.zero_add, Int.toNat_natCast, evK_go, reduceIte, decide_true, Nat.reduceEqDiff, Nat.reduceLT, true_and, Int.zero_add, List.drop_zero, Int.natCast_nonneg]
      refine cdK_dec (fun h1 => ?_) (fun h1 => ?_)
      · have hd3 : decide ((l.getD i default).1 = (z : Int)) = true := decide_eq_true h1
        simp (implicitDefEqProofs := false) (dsimp := false) only [hd3, Bool.not_true, Bool.false_and, Bool.false_eq_true, if_false, List.append_nil] at hs
        simp (implicitDefEqProofs := false) (dsimp := false) only [hd3, ↓cdK_false, ↓gdK_t, ↓gval_mk, ↓gvL_zero, ↓gvL_succ, ↓aw_cond, ↓aw_skip, ↓aw_reg, ↓Qseq_n, ↓Qblk_n, ↓ops_nil, ↓ops_cons, ↓ops_guard, ↓eval_tmp, ↓eval_int, ↓eval_bool, ↓put_some, ↓bK_b, ↓binE_i, ↓bi_add, ↓in_i64, ↓op_move, ↓op_assign, ↓op_pick, ↓op_bin, ↓st_tm, List.getD_cons_zero, List.getD_cons_succ, List.set_cons_zero, List.set_cons_succ, Nat.reduceAdd, Nat.reduceSub, Nat.reduceMul, evK_go, reduceIte, Bool.not_true, Nat.reduceEqDiff, Nat.reduceLT]
        refine ⟨by omega, i + 1, by omega, by omega, ?_⟩
        refine Wkn.of [] [some 0] ?_
        simp (implicitDefEqProofs := false) (dsimp := false) only [hs, List.getD_cons_zero, List.set_cons_zero, List.set_cons_succ, Bool.and_self, Nat.reduceAdd, Nat.reduceSub, Nat.reduceMul, List.replicate, evK_go, reduceIte, Nat.reduceEqDiff, Nat.reduceLT, and_self, List.foldl_cons, List.foldl_nil, Int.cast_ofNat_Int, Int.natCast_add, slots, wkL_nil, wkL_cons, wkB_nil, wkR_nil, wkR_some, wkV_j, wkV_d, wkV_o, frz_d, oK_zs, reduceCtorEq]
      · have hd3 : decide ((l.getD i default).1 = (z : Int)) = false := decide_eq_false h1
        simp (implicitDefEqProofs := false) (dsimp := false) only [hd3, h, lnD, ↓cdK_true, ↓cdK_not, ↓gdK_t, ↓gval_mk, ↓gvL_zero, ↓gvL_succ, ↓atK_H, ↓atH_map, ↓aw_cond, ↓Qseq_n, ↓ops_nil, ↓ops_cons, ↓ops_guard, ↓eval_tmp, ↓put_some, ↓bK_b, ↓iK_i, ↓binE_i, ↓bi_neq, ↓ldK_q, ↓faK_q, ↓iaK_l, ↓op_move, ↓op_pick, ↓op_load, ↓op_bin, ↓op_fa, ↓op_ia, ↓st_tm, ↓cells_s, ↓hd_cons, ↓ty3, ↓sl22, ↓ty35, ↓fd35_1, List.getD_cons_zero, List.getD_cons_succ, List.set_cons_zero, List.set_cons_succ, List.length_cons, List.length_nil, Bool.true_and, Nat.reduceAdd, Nat.reduceSub, Nat.reduceMul, Nat.zero_add, Int.toNat_natCast, evK_go, reduceIte, Bool.not_false, Nat.reduceEqDiff, Nat.reduceLT, true_and, Int.zero_add, List.drop_zero, List.drop_succ_cons, Int.natCast_nonneg]
        refine cdK_dec (fun h2 => ?_) (fun h2 => ?_)
        · have hd4 : decide ((l.getD i default).2 = (z : Int)) = true := decide_eq_true h2
          simp (implicitDefEqProofs := false) (dsimp := false) only [hd4, Bool.not_true, Bool.and_false, Bool.false_eq_true, if_false, List.append_nil] at hs
          simp (implicitDefEqProofs := false) (dsimp := false) only [hd4, ↓aw_skip, ↓aw_reg, ↓Qseq_n, ↓Qblk_n, ↓ops_nil, ↓ops_cons, ↓eval_tmp, ↓eval_int, ↓put_some, ↓binE_i, ↓bi_add, ↓in_i64, ↓op_move, ↓op_assign, ↓op_bin, List.getD_cons_zero, List.getD_cons_succ, List.set_cons_zero, List.set_cons_succ, Nat.reduceAdd, Nat.reduceSub, Nat.reduceMul, evK_go, reduceIte, Bool.not_true, Nat.reduceEqDiff, Nat.reduceLT]
          refine ⟨by omega, i + 1, by omega, by omega, ?_⟩
          refine Wkn.of [] [some 0] ?_
          simp (implicitDefEqProofs := false) (dsimp := false) only [hs, List.getD_cons_zero, List.set_cons_zero, List.set_cons_succ, Bool.and_self, Nat.reduceAdd, Nat.reduceSub, Nat.reduceMul, List.replicate, evK_go, reduceIte, Nat.reduceEqDiff, Nat.reduceLT, and_self, List.foldl_cons, List.foldl_nil, Int.cast_ofNat_Int, Int.natCast_add, slots, wkL_nil, wkL_cons, wkB_nil, wkR_nil, wkR_some, wkV_j, wkV_d, wkV_o, frz_d, oK_zs, reduceCtorEq]
        · have hd4 : decide ((l.getD i default).2 = (z : Int)) = false := decide_eq_false h2
          simp (implicitDefEqProofs := false) (dsimp := false) only [hd3, hd4, Bool.not_false, Bool.and_true, if_true] at hs
          simp (implicitDefEqProofs := false) (dsimp := false) only [hd4, h, lnD, ↓optK_some, ↓rwK_mk_, ↓atK_H, ↓atH_map, ↓aw_reg, ↓Qseq_n, ↓Qblk_n, ↓ops_nil, ↓ops_cons, ↓eval_tmp, ↓eval_int, ↓put_some, ↓iK_i, ↓dK_d, ↓binE_i, ↓bi_add, ↓in_i64, ↓ldK_q, ↓iaK_l, ↓op_move, ↓op_assign, ↓op_load, ↓op_bin, ↓op_ia, ↓op_append, ↓allD_nil, ↓allD_cons, ↓app_mk, ↓row_sz, ↓row_xs, kill_d, kill_j, kill_o, ↓cells_s, ↓one_i, ↓ap_, ↓ap_o, ↓src_l, ↓bs_, ↓op_bs, ↓bsL_f, ↓stored_mk, ↓sl_nil, ↓sl_cons, ↓sT_move, ↓sT_assign, ↓sT_load, ↓sT_ia, ↓sT_bs, ↓sT_call, ↓vsz_agg, ↓inO_1, ↓fm_nil, ↓fm_cons, ↓sl22, ↓ty35, ↓zb35, List.getD_cons_zero, List.getD_cons_succ, List.set_cons_zero, List.set_cons_succ, List.map_cons, List.map_nil, List.length_cons, List.length_nil, List.length_map, List.all_cons, List.all_nil, Bool.true_and, Bool.and_self, Bool.or_false, Nat.reduceAdd, Nat.reduceSub, Nat.reduceMul, Nat.zero_add, Int.toNat_natCast, evK_go, reduceIte, Bool.not_false, Nat.reduceEqDiff, Nat.reduceLT, and_self, true_and, Int.zero_add, List.drop_zero, List.take_succ_cons, List.take_nil, Int.natCast_nonneg]
          refine ⟨by decide, ⟨rfl, by decide⟩, rfl, ⟨fun _ => trivial, by omega, by omega⟩, by omega, i + 1, by omega, by omega, ?_⟩
          refine Wkn.of [] [some 0] ?_
          simp (implicitDefEqProofs := false) (dsimp := false) only [hs, List.map_append, List.length_append, lnD, List.getD_cons_zero, List.set_cons_zero, List.set_cons_succ, List.map_cons, List.map_nil, List.length_cons, List.length_nil, Bool.and_self, Nat.reduceAdd, Nat.reduceSub, Nat.reduceMul, Nat.zero_add, List.replicate, evK_go, reduceIte, Nat.reduceEqDiff, Nat.reduceLT, and_self, Int.zero_add, List.foldl_cons, List.foldl_nil, Int.cast_ofNat_Int, Int.natCast_add, slots, wkL_nil, wkL_cons, wkB_nil, wkR_nil, wkR_some, wkV_j, wkV_d, wkV_o, frz_d, oK_zs, reduceCtorEq]
    · obtain rfl : i = l.length := by omega
      rw [List.take_length]
      simp (implicitDefEqProofs := false) (dsimp := false) only [↓optK_some, ↓rwK_mk_, ↓aw_seq, ↓aw_exit, ↓aw_reg, ↓Qseq_n, ↓Qseq_x, ↓Qblk_x, ↓ops_cons, ↓eval_tmp, ↓eval_func, ↓put_some, ↓op_move, ↓op_call, isD_d, isD_o, ↓fnK_f, ↓call_H, ↓callK_H, ↓allT_nil, ↓allT_cons, ↓td_d, ↓td_o, ↓row_xs, ↓take_map, List.getD_cons_zero, List.getD_cons_succ, List.set_cons_zero, List.set_cons_succ, List.append_nil, List.all_cons, List.all_nil, Bool.and_true, Bool.and_self, Bool.and_false, Nat.reduceAdd, Nat.reduceSub, Nat.reduceMul, evK_go, reduceIte, decide_false, Nat.reduceEqDiff, Nat.reduceLT, and_self, and_true, Nat.lt_irrefl, List.drop_zero]
      have hO62 : (offI l (z : Int)).length < 2 ^ 62 := by have := offI_len l (z : Int); omega
      have hXz := hX z rfl fun e => hkf e.symm
      obtain ⟨hc2, dx⟩ := domW hXz
      have hiff : ((z : Int) ∈ M.getD t default) ↔ ((domOf n (offI l (z : Int)) f).getD t default).length = 0 := by
        have hf0 := dw.f0
        have hxz : x ≠ z := fun e => hkf (by omega)
        have htz : t ≠ z := fun e => hkt (by omega)
        have hfx : f.toNat = x := by omega
        have hp : Path (natL l) x t := by
          have : 0 < (M.getD t default).length := by omega
          have h1 := List.getElem_mem this
          obtain ⟨c, hc1, _⟩ := dw.pt t _ h1
          rw [hc1] at h1
          exact ((dw.iff t c).1 h1).1
        have h1 : (∃ c : Nat, (c : Int) ∈ (domOf n (offI l (z : Int)) f).getD t default) ↔ Avo (natL l) (fun y => y = z) x t := by
          rw [← off_path hxz]
          constructor
          · rintro ⟨c, hc⟩
            have := ((dx.iff t c).1 hc).1
            rw [offI_nat hrng, hfx] at this
            exact this
          · intro h
            refine ⟨t, (dx.iff t t).2 (Ov.self ?_)⟩
            rw [offI_nat hrng, hfx]; exact h
        rw [dw.iff]
        constructor
        · intro h
          have h2 := (h.2.resolve_left fun e => htz e.symm).resolve_left fun e => hxz e.symm
          refine Classical.byContradiction fun hne => h2 (h1.1 ?_)
          have : 0 < ((domOf n (offI l (z : Int)) f).getD t default).length := by omega
          have h3 := List.getElem_mem this
          obtain ⟨c, hc1, _⟩ := dx.pt t _ h3
          rw [hc1] at h3
          exact ⟨c, h3⟩
        · intro h
          refine ⟨hp, .inr (.inr fun ha => ?_)⟩
          obtain ⟨c, hc⟩ := h1.2 ha
          have := List.length_pos_of_mem hc
          omega
      have hXs := dx.sz t
      have hXl : (domOf n (offI l (z : Int)) f).length = m := by rw [dx.len, hm]
      have htX : t < (domOf n (offI l (z : Int)) f).length := by rw [hXl, ← dw.len]; exact htM
      refine OrH.r (Loud.frz { tm := slots 136 [(0, .d (I .i64 n)), (3, .d (I .i64 (t : Int))), (4, .d (I .i64 (z : Int))), (12, .d (.l (M.map liD))), (107, .d (I .i64 n)), (108, .d (.l ((offI l (z : Int)).map lnD))), (109, .d (I .i64 f))], bx := [], rw := [] } (Wkn.of [] [] ?_) ?_)
      · have e1 : List.take (offI l (z : Int)).length (List.map lnD (offI l (z : Int))) = List.map lnD (offI l (z : Int)) := List.take_of_length_le (by simp)
        simp (implicitDefEqProofs := false) (dsimp := false) only [e1, ↓optK_some, ↓row_xs, List.getD_cons_zero, List.set_cons_zero, List.set_cons_succ, Bool.and_self, Nat.reduceAdd, Nat.reduceSub, Nat.reduceMul, List.replicate, evK_go, reduceIte, Nat.reduceEqDiff, Nat.reduceLT, and_self, not_false_eq_true, List.drop_zero, List.foldl_cons, List.foldl_nil, slots, wkL_nil, wkL_cons, wkB_nil, wkR_nil, wkV_j, wkV_d, frz_d, frz_o, dl_eq, reduceCtorEq, List.not_mem_nil]
      · have hmn : ((m : Nat) : Int) = n := e0.symm
        by_cases hb : (z : Int) ∈ M.getD t default
        · have hb2 := hiff.1 hb
          simp (implicitDefEqProofs := false) (dsimp := false) only [slots, dof_call, hO62, hXz, hXl, htM, hmn, liD, hasR_callQ, hs62, hb, hb2, beq_self_eq_true, eval_nilI, ↓er_eql, ↓bo_eql, ↓cdK_true, ↓gdK_t, ↓gval_mk, ↓gvL_zero, ↓gvL_succ, ↓atK_H, ↓atH_map, ↓nthK_H, ↓nthH_zero, ↓nthH_succ, ↓aw_seq, ↓aw_ret, ↓aw_draw, ↓Qseq_n, ↓Qret_r, ↓ops_nil, ↓ops_cons, ↓eval_tmp, ↓eval_int, ↓eval_func, ↓put_some, ↓bK_b, ↓iK_i, ↓lenK_l, ↓ev_move, ↓ev_assign, ↓ev_pick, ↓ev_load, ↓ev_bin, ↓ev_ia, ↓tK_t, ↓ev_len, ↓binE_i, ↓bi_eql, ↓ldK_q, ↓iaK_l, ↓op_move, ↓op_assign, ↓op_extract, isD_d, ↓fnK_f, ↓call_H, ↓callK_H, ↓callKQ_H, ↓allT_nil, ↓allT_cons, ↓td_d, ↓ret_1, ↓draw_H, ↓h_nil, ↓h_cons, ↓ldH_n, ↓ldH_g, ↓q_call, ↓q_bi, ↓q_move, ↓q_assign, ↓q_pick, ↓q_load, ↓q_bin, ↓q_ia, ↓il_move, ↓il_assign, ↓il_pick, ↓il_load, ↓il_bin, ↓il_ia, ↓il_call, ↓il_len, ↓st_tm, ↓cells_l, ↓hd_cons, ↓ty28, ↓sl28, ↓sl44, List.getD_cons_zero, List.getD_cons_succ, List.set_cons_zero, List.set_cons_succ, List.append_nil, List.length_cons, List.length_nil, List.length_map, List.all_cons, List.all_nil, Bool.and_true, Bool.true_and, Bool.and_self, Bool.true_or, Nat.reduceAdd, Nat.reduceSub, Nat.reduceMul, Nat.zero_add, Int.toNat_natCast, List.replicate, evK_go, reduceIte, decide_true, Nat.reduceEqDiff, Nat.reduceLT, and_self, true_and, and_true, Int.zero_add, List.foldl_cons, List.foldl_nil, Int.cast_ofNat_Int, Int.natCast_nonneg]
          (repeat refine OrH.l ?_)
          refine ⟨DrawH.of follows_mixed (by kernel_rfl), ?_⟩
          (repeat refine OrH.l ?_)
          omega
        · have hb2 : ¬ (((domOf n (offI l (z : Int)) f).getD t default).length : Int) = 0 := fun h => hb (hiff.2 (by omega))
          simp (implicitDefEqProofs := false) (dsimp := false) only [slots, dof_call, hO62, hXz, hXl, htM, hmn, liD, hasR_callQ, hs62, hb, hb2, beq_self_eq_true, eval_nilI, ↓er_eql, ↓bo_eql, ↓cdK_true, ↓gdK_t, ↓gval_mk, ↓gvL_zero, ↓gvL_succ, ↓atK_H, ↓atH_map, ↓nthK_H, ↓nthH_zero, ↓nthH_succ, ↓aw_seq, ↓aw_ret, ↓aw_draw, ↓Qseq_n, ↓Qret_r, ↓ops_nil, ↓ops_cons, ↓eval_tmp, ↓eval_int, ↓eval_func, ↓put_some, ↓bK_b, ↓iK_i, ↓lenK_l, ↓ev_move, ↓ev_assign, ↓ev_pick, ↓ev_load, ↓ev_bin, ↓ev_ia, ↓tK_t, ↓ev_len, ↓binE_i, ↓bi_eql, ↓ldK_q, ↓iaK_l, ↓op_move, ↓op_assign, ↓op_extract, isD_d, ↓fnK_f, ↓call_H, ↓callK_H, ↓callKQ_H, ↓allT_nil, ↓allT_cons, ↓td_d, ↓ret_1, ↓draw_H, ↓h_nil, ↓h_cons, ↓ldH_n, ↓ldH_g, ↓q_call, ↓q_bi, ↓q_move, ↓q_assign, ↓q_pick, ↓q_load, ↓q_bin, ↓q_ia, ↓il_move, ↓il_assign, ↓il_pick, ↓il_load, ↓il_bin, ↓il_ia, ↓il_call, ↓il_len, ↓st_tm, ↓cells_l, ↓hd_cons, ↓ty28, ↓sl28, ↓sl44, List.getD_cons_zero, List.getD_cons_succ, List.set_cons_zero, List.set_cons_succ, List.append_nil, List.length_cons, List.length_nil, List.length_map, List.all_cons, List.all_nil, Bool.and_true, Bool.true_and, Bool.and_self, Bool.true_or, Nat.reduceAdd, Nat.reduceSub, Nat.reduceMul, Nat.zero_add, Int.toNat_natCast, List.replicate, evK_go, reduceIte, decide_true, decide_false, Nat.reduceEqDiff, Nat.reduceLT, and_self, true_and, and_true, Int.zero_add, List.foldl_cons, List.foldl_nil, Int.natCast_nonneg]
          (repeat refine OrH.l ?_)
          refine ⟨DrawH.of follows_mixed (by kernel_rfl), ?_⟩
          (repeat refine OrH.l ?_)
          omega
end Go.Proofs

namespace Go.Proofs
open Go.Aw
set_option linter.unusedSimpArgs false
set_option maxRecDepth 10000
theorem riseK_len (l : List Int) (k : Nat) (hk : k ≤ l.length) : (riseK l k).1.length = l.length ∧ (riseK l k).2.length = k := by
  obtain ⟨ps, h⟩ := riseK_spec l k hk
  exact ⟨h.len, by rw [h.out, List.length_map, h.ps_len]⟩
theorem rise_spec (l : List Int) (hpre : l.length ≤ 1000) : FnR Try.prog 55 [.l (l.map (I .i64))] 1 ((rising l).map (I .i64)) := by
  refine FnR.go Try.func55 rfl rfl Try.results55 Try.ntmps55 ?_
  simp (implicitDefEqProofs := false) (dsimp := false) only [↓aw_seq, ↓aw_block, ↓aw_loop, ↓aw_reg, ↓Qseq_n, ↓ops_nil, ↓ops_cons, ↓eval_tmp, ↓eval_int, ↓eval_nil, ↓put_some, ↓iK_i, ↓dK_d, ↓lenK_l, ↓op_move, ↓op_assign, ↓op_len, ↓op_make, ↓addRow_mk, ↓st_rw, ↓cells_c, ↓one_b, constV_b, ↓mk_, ↓vsz_bool, ↓ty4, ↓zb4, ↓sl28, ↓sl38, List.getD_cons_zero, List.getD_cons_succ, List.set_cons_zero, List.set_cons_succ, List.cons_append, List.nil_append, List.map_cons, List.map_nil, List.length_cons, List.length_nil, List.length_map, List.all_cons, List.all_nil, Bool.and_true, Bool.true_and, Bool.and_self, Nat.reduceAdd, Nat.reduceSub, Nat.reduceMul, Nat.zero_add, Int.toNat_natCast, List.replicate, evK_go, reduceIte, Nat.reduceEqDiff, Nat.reduceLT, and_self, true_and, and_true, Int.zero_add, Int.natCast_nonneg]
  refine ⟨⟨by omega, by decide⟩, ?_⟩
  refine loopW (fun k : Nat => { tm := slots 55 [(0, .d (.l (l.map (I .i64)))), (3, .o 1 0 k), (4, .o 0 0 l.length), (5, .d (I .i64 k))], bx := [], rw := [some ⟨1, (riseK l k).1.map Bo⟩, some ⟨1, (riseK l k).2.map (I .i64)⟩] })
    (fun k => k ≤ l.length) (fun k => l.length - k) 0 (by simp) ?_ ?_
  · refine Wkn.of [] [some 0, none] ?_
    simp (implicitDefEqProofs := false) (dsimp := false) only [riseK, List.map_replicate, ↓row_xs, List.getD_cons_zero, List.set_cons_zero, List.set_cons_succ, List.map_nil, Bool.and_self, Nat.reduceAdd, Nat.reduceSub, Nat.reduceMul, List.replicate, evK_go, reduceIte, Nat.reduceEqDiff, Nat.reduceLT, and_self, List.foldl_cons, List.foldl_nil, Int.cast_ofNat_Int, slots, wkL_nil, wkL_cons, wkB_nil, wkR_nil, wkR_some, wkR_new, wkV_j, wkV_d, nlK_nl, wkV_o, frz_d, oK_zs, oK_zn, oK_s, reduceCtorEq]
  · intro k hk
    simp (implicitDefEqProofs := false) (dsimp := false) only [slots, ↓aw_cond, ↓aw_seq, ↓aw_reg, ↓Qseq_n, ↓ops_nil, ↓ops_cons, ↓eval_tmp, ↓put_some, ↓bK_b, ↓lenK_l, ↓binE_i, ↓bi_lss, ↓op_move, ↓op_bin, ↓op_len, ↓sl28, List.getD_cons_zero, List.getD_cons_succ, List.set_cons_zero, List.set_cons_succ, List.length_map, Nat.reduceAdd, Nat.reduceSub, Nat.reduceMul, List.replicate, evK_go, reduceIte, Nat.reduceEqDiff, Nat.reduceLT, List.foldl_cons, List.foldl_nil, Int.ofNat_lt]
    refine cdK_dec (fun h => ?_) (fun h => ?_)
    · obtain ⟨hl1, hl2⟩ := riseK_len l k hk
      obtain ⟨x, hx1, hx2, _⟩ := riseM_lt l h
      have hK : riseK l (k + 1) = ((riseK l k).1.set x true, (riseK l k).2 ++ [l.getD x default]) := by
        show riseS l (riseK l k) = _
        unfold riseS
        rw [hx1, Int.toNat_natCast]
      generalize hU : (riseK l k).1 = used at *
      generalize hO : (riseK l k).2 = out at *
      simp (implicitDefEqProofs := false) (dsimp := false) only [↓aw_seq, ↓aw_block, ↓aw_skip, ↓aw_loop, ↓aw_reg, ↓Qseq_n, ↓ops_nil, ↓ops_cons, ↓eval_int, ↓put_some, ↓op_assign, List.set_cons_zero, List.set_cons_succ, Nat.reduceAdd, Nat.reduceSub, Nat.reduceMul, evK_go, reduceIte, Nat.reduceEqDiff, Nat.reduceLT]
      refine loopW (fun i : Nat => { tm := slots 55 [(0, .d (.l (l.map (I .i64)))), (3, .o 1 0 k), (4, .o 0 0 l.length), (5, .d (I .i64 k)), (6, .d (I .i64 ((List.range i).foldl (riseB l used) (-1)))), (7, .d (I .i64 i))], bx := [], rw := [some ⟨1, used.map Bo⟩, some ⟨1, out.map (I .i64)⟩] })
        (fun i => i ≤ l.length) (fun i => l.length - i) 0 (by simp) ?_ ?_
      · refine Wkn.of [] [some 0, some 1] ?_
        simp (implicitDefEqProofs := false) (dsimp := false) only [List.range_zero, List.getD_cons_zero, List.getD_cons_succ, List.set_cons_zero, List.set_cons_succ, Bool.and_self, Nat.reduceAdd, Nat.reduceSub, Nat.reduceMul, List.replicate, evK_go, reduceIte, Nat.reduceEqDiff, Nat.reduceLT, and_self, List.foldl_cons, List.foldl_nil, Int.cast_ofNat_Int, slots, wkL_nil, wkL_cons, wkB_nil, wkR_nil, wkR_some, wkV_j, wkV_d, wkV_o, frz_d, oK_zs, oK_s, reduceCtorEq]
      · intro i hi
        simp (implicitDefEqProofs := false) (dsimp := false) only [slots, ↓aw_cond, ↓aw_seq, ↓aw_reg, ↓Qseq_n, ↓ops_nil, ↓ops_cons, ↓eval_tmp, ↓put_some, ↓bK_b, ↓lenK_l, ↓binE_i, ↓bi_lss, ↓op_move, ↓op_bin, ↓op_len, ↓sl28, List.getD_cons_zero, List.getD_cons_succ, List.set_cons_zero, List.set_cons_succ, List.length_map, Nat.reduceAdd, Nat.reduceSub, Nat.reduceMul, List.replicate, evK_go, reduceIte, Nat.reduceEqDiff, Nat.reduceLT, List.foldl_cons, List.foldl_nil, Int.ofNat_lt]
        refine cdK_dec (fun h1 => ?_) (fun h1 => ?_)
        · have hst : (List.range (i + 1)).foldl (riseB l used) (-1) = riseB l used ((List.range i).foldl (riseB l used) (-1)) i := by rw [List.range_succ, List.foldl_append]; rfl
          have hsp := riseB_spec l used i hi
          have hiu : i < used.length := by omega
          generalize (List.range i).foldl (riseB l used) (-1) = b at hst hsp ⊢
          simp (implicitDefEqProofs := false) (dsimp := false) only [hiu, h1, ↓cdK_not, ↓gdK_t, ↓gval_mk, ↓gvL_zero, ↓gvL_succ, ↓optK_some, ↓rwK_mk_, ↓atK_H, ↓atH_map, ↓nthK_H, ↓nthH_zero, ↓aw_seq, ↓aw_block, ↓aw_skip, ↓aw_draw, ↓Qseq_n, ↓eval_tmp, ↓put_some, ↓bK_b, ↓iK_i, ↓ev_move, ↓ev_load, ↓ev_not, ↓ev_ia, ↓ldK_e, ↓iaK_o, ↓draw_H, ↓h_cons, ↓ldH_n, ↓ldH_g, ↓q_move, ↓q_load, ↓q_un, ↓q_ia, ↓il_move, ↓il_load, ↓il_un, ↓il_ia, ↓st_tm, ↓row_sz, ↓row_xs, ↓cells_c, ↓ty4, ↓sl38, List.getD_cons_zero, List.getD_cons_succ, List.set_cons_zero, List.set_cons_succ, Bool.true_and, Bool.and_self, Nat.reduceAdd, Nat.reduceSub, Nat.reduceMul, Nat.zero_add, Int.toNat_natCast, evK_go, reduceIte, decide_true, Nat.reduceEqDiff, Nat.reduceLT, and_self, true_and, Int.zero_add, Int.ofNat_lt, Int.natCast_nonneg]
          refine OrH.l ⟨DrawH.of follows_mixed (by kernel_rfl), ?_⟩
          cases hb : used.getD i default with
          | true =>
            have e : riseB l used b i = b := if_neg (by rw [hb]; simp)
            rw [e] at hst
            simp (implicitDefEqProofs := false) (dsimp := false) only [↓cdK_true, ↓cdK_false, ↓gdK_junk, ↓gdK_t, ↓gval_mk, ↓gvL_zero, ↓gvL_succ, ↓aw_cond, ↓aw_skip, ↓aw_reg, ↓Qseq_n, ↓Qblk_n, ↓ops_nil, ↓ops_cons, ↓eval_tmp, ↓eval_int, ↓eval_bool, ↓put_some, ↓bK_b, ↓ev_pick, ↓binE_i, ↓bi_add, ↓in_i64, ↓op_move, ↓op_assign, ↓op_bin, ↓h_nil, ↓h_cons, ↓ldH_n, ↓ldH_g, ↓q_pick, ↓il_move, ↓il_pick, ↓il_load, ↓il_bin, ↓il_ia, ↓st_tm, List.getD_cons_zero, List.getD_cons_succ, List.set_cons_zero, List.set_cons_succ, Nat.reduceAdd, Nat.reduceSub, Nat.reduceMul, evK_go, reduceIte, Bool.not_true, Nat.reduceEqDiff, Nat.reduceLT]
            refine ⟨by omega, i + 1, by omega, by omega, ?_⟩
            refine Wkn.of [] [some 0, some 1] ?_
            simp (implicitDefEqProofs := false) (dsimp := false) only [hst, List.getD_cons_zero, List.getD_cons_succ, List.set_cons_zero, List.set_cons_succ, Bool.and_self, Nat.reduceAdd, Nat.reduceSub, Nat.reduceMul, List.replicate, evK_go, reduceIte, Nat.reduceEqDiff, Nat.reduceLT, and_self, List.foldl_cons, List.foldl_nil, Int.cast_ofNat_Int, Int.natCast_add, slots, wkL_nil, wkL_cons, wkB_nil, wkR_nil, wkR_some, wkV_j, wkV_d, wkV_o, frz_d, oK_zs, oK_s, reduceCtorEq]
          | false =>
            rcases hsp with ⟨rfl, _⟩ | ⟨y, rfl, hy, _⟩
            · have e : riseB l used (-1) i = (i : Int) := if_pos ⟨hb, .inl (by decide)⟩
              rw [e] at hst
              have hd : decide ((-1 : Int) < 0) = true := rfl
              simp (implicitDefEqProofs := false) (dsimp := false) only [hd, ↓cdK_true, ↓cdK_false, ↓gdK_t, ↓gdK_f, ↓gval_mk, ↓gvL_zero, ↓gvL_succ, ↓aw_cond, ↓aw_reg, ↓Qseq_n, ↓Qblk_n, ↓ops_nil, ↓ops_cons, ↓eval_tmp, ↓eval_int, ↓eval_bool, ↓put_some, ↓bK_b, ↓ev_move, ↓ev_pick, ↓ev_bin, ↓binE_i, ↓bi_add, ↓bi_lss, ↓in_i64, ↓op_move, ↓op_assign, ↓op_bin, ↓h_nil, ↓h_cons, ↓ldH_n, ↓ldH_g, ↓q_move, ↓q_pick, ↓q_bin, ↓il_move, ↓il_pick, ↓il_load, ↓il_bin, ↓il_ia, ↓st_tm, List.getD_cons_zero, List.getD_cons_succ, List.set_cons_zero, List.set_cons_succ, Nat.reduceAdd, Nat.reduceSub, Nat.reduceMul, evK_go, reduceIte, Bool.not_false, Nat.reduceEqDiff, Nat.reduceLT]
              refine ⟨by omega, i + 1, by omega, by omega, ?_⟩
              refine Wkn.of [] [some 0, some 1] ?_
              simp (implicitDefEqProofs := false) (dsimp := false) only [hst, List.getD_cons_zero, List.getD_cons_succ, List.set_cons_zero, List.set_cons_succ, Bool.and_self, Nat.reduceAdd, Nat.reduceSub, Nat.reduceMul, List.replicate, evK_go, reduceIte, Nat.reduceEqDiff, Nat.reduceLT, and_self, List.foldl_cons, List.foldl_nil, Int.cast_ofNat_Int, Int.natCast_add, slots, wkL_nil, wkL_cons, wkB_nil, wkR_nil, wkR_some, wkV_j, wkV_d, wkV_o, frz_d, oK_zs, oK_s, reduceCtorEq]
            · have hd : decide ((y : Int) < 0) = false := by rw [decide_eq_false_iff_not]; omega
              have hyl : y < l.length := by omega
              simp (implicitDefEqProofs := false) (dsimp := false) only [hd, h1, hyl, ↓cdK_true, ↓cdK_false, ↓gdK_t, ↓gdK_f, ↓gval_mk, ↓gvL_zero, ↓gvL_succ, ↓atK_H, ↓atH_map, ↓aw_cond, ↓Qseq_n, ↓eval_tmp, ↓eval_int, ↓put_some, ↓bK_b, ↓iK_i, ↓ev_move, ↓ev_pick, ↓ev_load, ↓ev_bin, ↓ev_ia, ↓binE_i, ↓bi_lss, ↓ldK_q, ↓iaK_l, ↓h_nil, ↓h_cons, ↓ldH_n, ↓ldH_g, ↓q_move, ↓q_pick, ↓q_load, ↓q_bin, ↓q_ia, ↓il_move, ↓il_pick, ↓il_load, ↓il_bin, ↓il_ia, ↓st_tm, ↓cells_c, ↓hd_cons, ↓ty3, ↓sl28, List.getD_cons_zero, List.getD_cons_succ, List.set_cons_zero, List.set_cons_succ, List.length_cons, List.length_nil, Bool.true_and, Nat.reduceAdd, Nat.reduceSub, Nat.reduceMul, Nat.zero_add, Int.toNat_natCast, evK_go, reduceIte, Bool.not_false, Nat.reduceEqDiff, Nat.reduceLT, true_and, Int.zero_add, Int.natCast_nonneg]
              refine cdK_dec (fun h2 => ?_) (fun h2 => ?_)
              · have e : riseB l used (y : Int) i = (i : Int) := if_pos ⟨hb, .inr (by rw [Int.toNat_natCast]; exact h2)⟩
                rw [e] at hst
                have hd2 : decide (l.getD i default < l.getD y default) = true := decide_eq_true h2
                simp (implicitDefEqProofs := false) (dsimp := false) only [hd2, ↓aw_reg, ↓Qseq_n, ↓Qblk_n, ↓ops_nil, ↓ops_cons, ↓eval_tmp, ↓eval_int, ↓put_some, ↓binE_i, ↓bi_add, ↓in_i64, ↓op_move, ↓op_assign, ↓op_bin, List.getD_cons_zero, List.getD_cons_succ, List.set_cons_zero, List.set_cons_succ, Nat.reduceAdd, Nat.reduceSub, Nat.reduceMul, evK_go, reduceIte, Nat.reduceEqDiff, Nat.reduceLT]
                refine ⟨by omega, i + 1, by omega, by omega, ?_⟩
                refine Wkn.of [] [some 0, some 1] ?_
                simp (implicitDefEqProofs := false) (dsimp := false) only [hst, List.getD_cons_zero, List.getD_cons_succ, List.set_cons_zero, List.set_cons_succ, Bool.and_self, Nat.reduceAdd, Nat.reduceSub, Nat.reduceMul, List.replicate, evK_go, reduceIte, Nat.reduceEqDiff, Nat.reduceLT, and_self, List.foldl_cons, List.foldl_nil, Int.cast_ofNat_Int, Int.natCast_add, slots, wkL_nil, wkL_cons, wkB_nil, wkR_nil, wkR_some, wkV_j, wkV_d, wkV_o, frz_d, oK_zs, oK_s, reduceCtorEq]
              · have e : riseB l used (y : Int) i = (y : Int) := if_neg (by rw [Int.toNat_natCast]; rintro ⟨_, h3 | h3⟩ <;> omega)
                rw [e] at hst
                have hd2 : decide (l.getD i default < l.getD y default) = false := decide_eq_false h2
                simp (implicitDefEqProofs := false) (dsimp := false) only [hd2, ↓aw_skip, ↓aw_reg, ↓Qseq_n, ↓Qblk_n, ↓ops_nil, ↓ops_cons, ↓eval_tmp, ↓eval_int, ↓put_some, ↓binE_i, ↓bi_add, ↓in_i64, ↓op_move, ↓op_assign, ↓op_bin, List.getD_cons_zero, List.getD_cons_succ, List.set_cons_zero, List.set_cons_succ, Nat.reduceAdd, Nat.reduceSub, Nat.reduceMul, evK_go, reduceIte, Nat.reduceEqDiff, Nat.reduceLT]
                refine ⟨by omega, i + 1, by omega, by omega, ?_⟩
                refine Wkn.of [] [some 0, some 1] ?_
                simp (implicitDefEqProofs := false) (dsimp := false) only [hst, List.getD_cons_zero, List.getD_cons_succ, List.set_cons_zero, List.set_cons_succ, Bool.and_self, Nat.reduceAdd, Nat.reduceSub, Nat.reduceMul, List.replicate, evK_go, reduceIte, Nat.reduceEqDiff, Nat.reduceLT, and_self, List.foldl_cons, List.foldl_nil, Int.cast_ofNat_Int, Int.natCast_add, slots, wkL_nil, wkL_cons, wkB_nil, wkR_nil, wkR_some, wkV_j, wkV_d, wkV_o, frz_d, oK_zs, oK_s, reduceCtorEq]
        · obtain rfl : i = l.length := by omega
          have hx1' : (List.range l.length).foldl (riseB l used) (-1) = (x : Int) := hx1
          have hxu : x < used.length := by omega
          simp (implicitDefEqProofs := false) (dsimp := false) only [hx1', hx2, ↓optK_some, ↓rwK_mk_, ↓atK_H, ↓atH_map, ↓aw_seq, ↓aw_exit, ↓aw_ret, ↓aw_reg, ↓Qseq_n, ↓Qseq_x, ↓Qblk_n, ↓Qblk_x, ↓ops_nil, ↓ops_cons, ↓eval_tmp, ↓eval_int, ↓eval_bool, ↓put_some, ↓put_none, ↓iK_i, ↓dK_d, ↓binE_i, ↓bi_add, ↓in_i64, ↓ldK_q, ↓iaK_l, ↓iaK_o, ↓op_move, ↓op_assign, ↓op_load, ↓op_bin, ↓op_ia, ↓op_append, ↓op_store, ↓allD_nil, ↓allD_cons, ↓setRow_mk, ↓app_mk, ↓row_sz, ↓row_xs, kill_d, kill_j, kill_o, kill_e, ↓cells_c, ↓one_i, ↓one_b, ↓st_e, ↓ap_, ↓ap_o, ↓src_l, ↓bs_, ↓op_bs, ↓bsL_f, ↓stored_mk, ↓sl_nil, ↓sl_cons, ↓sT_move, ↓sT_assign, ↓sT_load, ↓sT_ia, ↓sT_bs, ↓sT_call, ↓vsz_int, ↓inO_1, ↓fm_nil, ↓fm_cons, ↓hd_cons, ↓Qrow_r, ↓rowK_o, ↓ty3, ↓zb3, ↓ty4, ↓sl28, ↓sl38, List.getD_cons_zero, List.getD_cons_succ, List.set_cons_zero, List.set_cons_succ, List.map_cons, List.map_nil, List.length_cons, List.length_nil, List.length_map, List.all_cons, List.all_nil, Bool.true_and, Bool.and_self, Bool.or_false, Nat.reduceAdd, Nat.reduceSub, Nat.reduceMul, Nat.zero_add, Int.toNat_natCast, evK_go, reduceIte, decide_false, Nat.reduceEqDiff, Nat.reduceLT, and_self, true_and, Nat.lt_irrefl, Int.zero_add, List.drop_zero, Int.ofNat_lt, Int.natCast_nonneg]
          refine ⟨by decide, ⟨fun _ => trivial, by omega, by omega, by omega⟩, by omega, k + 1, by omega, by omega, ?_⟩
          refine Wkn.of [] [some 0, some 1] ?_
          simp (implicitDefEqProofs := false) (dsimp := false) only [hK, List.map_append, List.map_set, List.getD_cons_zero, List.getD_cons_succ, List.set_cons_zero, List.set_cons_succ, List.map_cons, List.map_nil, Bool.and_self, Nat.reduceAdd, Nat.reduceSub, Nat.reduceMul, List.replicate, evK_go, reduceIte, Nat.reduceEqDiff, Nat.reduceLT, and_self, List.foldl_cons, List.foldl_nil, Int.cast_ofNat_Int, Int.natCast_add, slots, wkL_nil, wkL_cons, wkB_nil, wkR_nil, wkR_some, wkV_j, wkV_d, wkV_o, frz_d, oK_zs, oK_s, reduceCtorEq]
    · obtain rfl : k = l.length := by omega
      simp (implicitDefEqProofs := false) (dsimp := false) only [↓optK_some, ↓rwK_mk_, ↓aw_seq, ↓aw_exit, ↓aw_ret, ↓aw_reg, ↓Qseq_n, ↓Qseq_x, ↓Qblk_x, ↓ops_nil, ↓ops_cons, ↓eval_tmp, ↓put_some, ↓op_move, ↓op_assign, ↓row_sz, ↓row_xs, ↓Qrow_r, ↓rowK_o, List.getD_cons_zero, List.getD_cons_succ, List.set_cons_zero, List.set_cons_succ, Bool.true_and, Nat.reduceAdd, Nat.reduceSub, Nat.reduceMul, evK_go, reduceIte, decide_false, Nat.reduceEqDiff, Nat.reduceLT, true_and, Nat.lt_irrefl]
      have h2 := (riseK_len l l.length (Nat.le_refl _)).2
      exact List.take_of_length_le (by simp [h2])
theorem rise_call (l : List Int) (pure : Bool) (σ : St) (dst : Option Tmp) (K : St → Prop) : CallH Try.prog 55 [.l (l.map (I .i64))] pure σ dst (.mk : Hid K) = OrH ((l.length ≤ 1000) ∧ (pure || Res.flat (.row 1 ((rising l).map (I .i64)))) = true ∧ evK ((σ.addRow ⟨1, (rising l).map (I .i64)⟩).put dst (.o σ.rw.length 0 (List.length ((rising l).map (I .i64))))) (.mk : Hid K)) (.mk : Hid (CallH Try.prog 55 [.l (l.map (I .i64))] pure σ dst (.mk : Hid K))) := CallH.eqR (fun h => rise_spec l h) pure σ dst K
theorem rise_callD (l : List Int) (pure : Bool) (σ : St) (dst : Option Tmp) (K : St → Prop) : CallH Try.prog 55 [.l (l.map (I .i64))] pure σ dst (.mk : Hid K) = OrH ((l.length ≤ 1000) ∧ (pure || D.flat (.l ((rising l).map (I .i64)))) = true ∧ evK (σ.put dst (.d (.l ((rising l).map (I .i64))))) (.mk : Hid K)) (.mk : Hid (CallH Try.prog 55 [.l (l.map (I .i64))] pure σ dst (.mk : Hid K))) := CallH.eq (fun h => ((fun h => rise_spec l h) h).data) pure σ dst K
theorem rise_callDQ (l : List Int) (pure : Bool) (C : V → Prop) : CallQ Try.prog 55 [.l (l.map (I .i64))] pure (.mk : Hid C) = OrH ((l.length ≤ 1000) ∧ (pure || D.flat (.l ((rising l).map (I .i64)))) = true ∧ evK (V.d (.l ((rising l).map (I .i64)))) (.mk : Hid C)) (.mk : Hid (CallQ Try.prog 55 [.l (l.map (I .i64))] pure (.mk : Hid C))) := CallQ.eq (fun h => ((fun h => rise_spec l h) h).data) pure C
end Go.Proofs

namespace Go.Proofs
open Go.Aw
set_option linter.unusedSimpArgs false
set_option maxRecDepth 10000
/-- The way over the last ones. -/
def wayR (K : List Int) (i : Nat) : Nat → List Nat × Int
  | 0 => ([], (i : Int))
  | s + 1 => wayS K (wayR K i s)
theorem wayR_len (K : List Int) (i : Nat) : ∀ s, (wayR K i s).1.length = s := by
  intro s
  induction s with
  | zero => rfl
  | succ s ih => simp [wayR, wayS, ih]
theorem lDomLast_spec (n : Int) (l : List (Int × Int)) (f : Int) (_hn : -9223372036854775808 ≤ n ∧ n ≤ 9223372036854775807) (hpre : l.length < 2 ^ 43) (_hf : -9223372036854775808 ≤ f ∧ f ≤ 9223372036854775807) : FnD Try.prog 16 [I .i64 n, .l (l.map lnD), I .i64 f] (Bo true) := by
  have hl62 : l.length < 2 ^ 62 := by omega
  refine FnD.go Try.func16 rfl rfl Try.results16 Try.ntmps16 ?_
  simp (implicitDefEqProofs := false) (dsimp := false) only [↓aw_seq, ↓aw_reg, ↓Qseq_n, ↓ops_nil, ↓ops_cons, ↓eval_bool, ↓eval_func, ↓put_some, ↓op_assign, ↓op_call, isD_d, ↓fnK_f, ↓call_H, ↓callK_H, ↓allT_nil, ↓td_d, List.set_cons_zero, List.set_cons_succ, List.cons_append, List.nil_append, List.append_nil, List.map_cons, List.map_nil, List.length_cons, List.length_nil, List.all_nil, Bool.and_self, Nat.reduceAdd, Nat.reduceSub, Nat.reduceMul, Nat.zero_add, List.replicate, evK_go, reduceIte, Nat.reduceEqDiff, Nat.reduceLT, and_self, Int.zero_add]
  simp (implicitDefEqProofs := false) (dsimp := false) only [dfact_call, dof_call, dlast_call, hl62, eval_nilI, ↓er_neq, ↓cdK_false, ↓cdK_not, ↓gdK_f, ↓gval_mk, ↓gvL_zero, ↓gvL_succ, ↓nthK_H, ↓nthH_zero, ↓nthH_succ, ↓aw_cond, ↓aw_seq, ↓aw_skip, ↓aw_reg, ↓Qseq_n, ↓ops_nil, ↓ops_cons, ↓ops_guard, ↓eval_tmp, ↓eval_func, ↓put_some, ↓bK_b, ↓tK_t, ↓op_move, ↓op_assign, ↓op_bin, ↓op_not, ↓op_extract, ↓op_call, isD_d, ↓fnK_f, ↓call_H, ↓callK_H, ↓allT_nil, ↓allT_cons, ↓td_d, ↓st_tm, List.getD_cons_zero, List.getD_cons_succ, List.set_cons_zero, List.set_cons_succ, List.append_nil, List.all_cons, List.all_nil, Bool.true_and, Bool.and_self, Bool.true_or, Nat.reduceAdd, Nat.reduceSub, Nat.reduceMul, evK_go, reduceIte, Bool.not_true, Nat.reduceEqDiff, Nat.reduceLT, and_self, true_and]
  (repeat refine OrH.l ?_)
  refine cdK_dec (fun hc => ?_) (fun hc => ?_)
  rotate_left
  · simp (implicitDefEqProofs := false) (dsimp := false) only [hc, eval_nilI, ↓er_neq, ↓cdK_true, ↓gdK_t, ↓gdK_f, ↓gval_mk, ↓gvL_zero, ↓gvL_succ, ↓aw_cond, ↓aw_seq, ↓aw_ret, ↓aw_reg, ↓Qseq_n, ↓Qseq_r, ↓Qret_r, ↓ops_nil, ↓ops_cons, ↓ops_guard, ↓eval_tmp, ↓eval_bool, ↓put_some, ↓bK_b, ↓op_move, ↓op_assign, ↓op_pick, ↓op_bin, ↓td_d, ↓ret_1, ↓st_tm, List.getD_cons_zero, List.getD_cons_succ, List.set_cons_zero, List.set_cons_succ, Nat.reduceAdd, Nat.reduceSub, Nat.reduceMul, evK_go, reduceIte, decide_false, Bool.not_false, Nat.reduceEqDiff, Nat.reduceLT]
  obtain ⟨hc0, dw⟩ := domW hc
  have ok := chk_ok hc0
  have hg := ok.good
  have hK : domLast n l f = lastL n.toNat (ovL n.toNat (natL l) f.toNat) := if_pos hc
  have hfm : f.toNat < n.toNat := dw.fm
  have h8' := ok.hi
  have hM : domOf n l f = (ovL n.toNat (natL l) f.toNat).map ptsI := if_pos hc
  rw [hK]
  have hlast : ∀ i : Nat, ¬ (∃ k, Ov (natL l) f.toNat i k) → i < n.toNat → (lastL n.toNat (ovL n.toNat (natL l) f.toNat)).getD i default = -1 := fun i hno hi => by
    rw [last_get hi]
    rcases last_spec (by omega) hg hfm i with h | ⟨p, _, _, h, _⟩
    · exact h.1
    · exact absurd ⟨p, h⟩ hno
  have hstart : ∀ i : Nat, i < n.toNat → Path (natL l) f.toNat i → WI (natL l) n.toNat f.toNat i (wayR (lastL n.toNat (ovL n.toNat (natL l) f.toNat)) i 0) := fun i hi hp => WI.start hi hp
  have hnext : ∀ i s : Nat, WI (natL l) n.toNat f.toNat i (wayR (lastL n.toNat (ovL n.toNat (natL l) f.toNat)) i s) → 0 ≤ (wayR (lastL n.toNat (ovL n.toNat (natL l) f.toNat)) i s).2 → WI (natL l) n.toNat f.toNat i (wayR (lastL n.toNat (ovL n.toNat (natL l) f.toNat)) i (s + 1)) := fun i s h h0 => h.step (by omega) hg hfm h0
  have hend : ∀ i s : Nat, WI (natL l) n.toNat f.toNat i (wayR (lastL n.toNat (ovL n.toNat (natL l) f.toNat)) i s) → s = n.toNat → (wayR (lastL n.toNat (ovL n.toNat (natL l) f.toNat)) i s).2 = -1 := fun i s h e => h.ends hg hfm (by rw [wayR_len]; exact e)
  have hrise : ∀ (i : Nat) (w : List Nat), w.Nodup → (∀ k : Nat, k ∈ w ↔ Ov (natL l) f.toNat i k) → rising (w.map Int.ofNat) = (domOf n l f).getD i default := fun i w hw hm => by
    rw [hM, mapP_get]
    refine rising_pts ?_ fun y => ?_
    · unfold List.Nodup at hw ⊢
      rw [List.pairwise_map]
      exact hw.imp fun h e => h (Int.ofNat_inj.1 e)
    · rw [List.mem_map]
      unfold ptsI
      rw [List.mem_map]
      constructor
      · rintro ⟨k, hk, rfl⟩
        exact ⟨k, (ovL_mem (by omega) hg hfm i k).2 ((hm k).1 hk), rfl⟩
      · rintro ⟨k, hk, rfl⟩
        exact ⟨k, (hm k).2 ((ovL_mem (by omega) hg hfm i k).1 hk), rfl⟩
  have hKl : (lastL n.toNat (ovL n.toNat (natL l) f.toNat)).length = n.toNat := by simp [lastL]
  generalize lastL n.toNat (ovL n.toNat (natL l) f.toNat) = K at *
  have dwi := dw.iff
  generalize domOf n l f = M at *
  generalize natL l = L at *
  generalize n.toNat = m at *
  generalize hx : f.toNat = x at *
  have e0 := dw.n0
  have hlo := dw.lo
  have hML : M.length = m := dw.len
  have hmn : ((m : Nat) : Int) = n := e0.symm
  have hinf : inB f 0 (n - 1) = true := inB_iff.2 ⟨by have := dw.f0; omega, by have := dw.f0; omega⟩
  have hs62 : ∀ i : Nat, (M.getD i default).length < 2 ^ 62 := fun i => by have := dw.sz i; omega
  have hfx := dw.f0
  simp (implicitDefEqProofs := false) (dsimp := false) only [hc, hML, hKl, hmn, hinf, in2_call, eval_nilI, ↓er_neq, ↓cdK_false, ↓gdK_f, ↓gval_mk, ↓gvL_zero, ↓gvL_succ, ↓aw_cond, ↓aw_seq, ↓aw_block, ↓aw_skip, ↓aw_loop, ↓aw_reg, ↓Qseq_n, ↓ops_nil, ↓ops_cons, ↓ops_guard, ↓eval_tmp, ↓eval_int, ↓eval_func, ↓put_some, ↓bK_b, ↓lenK_l, ↓binE_i, ↓bi_sub, ↓bi_neq, ↓in_i64, ↓op_move, ↓op_assign, ↓op_pick, ↓op_bin, ↓op_not, ↓op_len, ↓op_call, isD_d, ↓fnK_f, ↓call_H, ↓callK_H, ↓allT_nil, ↓allT_cons, ↓td_d, ↓st_tm, ↓sl28, ↓sl44, List.getD_cons_zero, List.getD_cons_succ, List.set_cons_zero, List.set_cons_succ, List.append_nil, List.length_map, List.all_cons, List.all_nil, Bool.true_and, Bool.and_self, Bool.true_or, Nat.reduceAdd, Nat.reduceSub, Nat.reduceMul, evK_go, reduceIte, decide_true, Bool.not_true, Nat.reduceEqDiff, Nat.reduceLT, and_self, true_and]
  refine ⟨by omega, ?_⟩
  (repeat refine OrH.l ?_)
  refine loopW (fun i : Nat => { tm := slots 120 [(0, .d (I .i64 n)), (2, .d (I .i64 f)), (8, .d (.l (M.map liD))), (10, .d (.l (K.map (I .i64)))), (12, .d (I .i64 i))], bx := [], rw := [] })
    (fun i => i ≤ m) (fun i => m - i) 0 (by simp) ?_ ?_
  · refine Wkn.of [] [] ?_; simp (implicitDefEqProofs := false) (dsimp := false) only [List.set_cons_zero, List.set_cons_succ, Bool.and_self, Nat.reduceAdd, Nat.reduceSub, Nat.reduceMul, List.replicate, evK_go, reduceIte, Nat.reduceEqDiff, Nat.reduceLT, and_self, List.foldl_cons, List.foldl_nil, Int.cast_ofNat_Int, slots, wkL_nil, wkL_cons, wkB_nil, wkR_nil, wkV_j, wkV_d, frz_d, reduceCtorEq]
  · intro i hi
    simp (implicitDefEqProofs := false) (dsimp := false) only [slots, ↓aw_cond, ↓aw_seq, ↓aw_reg, ↓Qseq_n, ↓ops_nil, ↓ops_cons, ↓eval_tmp, ↓put_some, ↓bK_b, ↓binE_i, ↓bi_lss, ↓op_move, ↓op_bin, List.getD_cons_zero, List.getD_cons_succ, List.set_cons_zero, List.set_cons_succ, Nat.reduceAdd, Nat.reduceSub, Nat.reduceMul, List.replicate, evK_go, reduceIte, Nat.reduceEqDiff, Nat.reduceLT, List.foldl_cons, List.foldl_nil]
    refine cdK_dec (fun h => ?_) (fun h => ?_)
    · have him : i < m := by omega
      have hiM : i < M.length := by omega
      have hiK : i < K.length := by omega
      simp (implicitDefEqProofs := false) (dsimp := false) only [hiM, liD, ↓atK_H, ↓atH_map, ↓aw_cond, ↓aw_seq, ↓aw_block, ↓aw_skip, ↓aw_reg, ↓Qseq_n, ↓ops_nil, ↓ops_cons, ↓eval_tmp, ↓eval_int, ↓put_some, ↓bK_b, ↓iK_i, ↓lenK_l, ↓binE_i, ↓bi_eql, ↓ldK_q, ↓iaK_l, ↓op_move, ↓op_load, ↓op_bin, ↓op_ia, ↓op_len, ↓cells_l, ↓hd_cons, ↓ty28, ↓sl28, ↓sl44, List.getD_cons_zero, List.getD_cons_succ, List.set_cons_zero, List.set_cons_succ, List.length_cons, List.length_nil, List.length_map, Bool.true_and, Nat.reduceAdd, Nat.reduceSub, Nat.reduceMul, Nat.zero_add, Int.toNat_natCast, evK_go, reduceIte, Nat.reduceEqDiff, Nat.reduceLT, true_and, Int.zero_add, Int.natCast_nonneg]
      refine cdK_dec (fun h0 => ?_) (fun h0 => ?_)
      · have hno : ¬ ∃ k, Ov L x i k := fun ⟨k, hk⟩ => by
          have := List.length_pos_of_mem ((dwi i k).2 hk)
          omega
        have hk1 := hlast i hno him
        simp (implicitDefEqProofs := false) (dsimp := false) only [hiK, hk1, ↓cdK_false, ↓atK_H, ↓atH_map, ↓aw_cond, ↓aw_seq, ↓aw_exit, ↓aw_ret, ↓aw_skip, ↓aw_reg, ↓Qseq_n, ↓Qseq_x, ↓Qblk_x, ↓Qret_r, ↓ops_nil, ↓ops_cons, ↓eval_tmp, ↓eval_int, ↓eval_bool, ↓put_some, ↓bK_b, ↓iK_i, ↓binE_i, ↓bi_add, ↓bi_neq, ↓in_i64, ↓ldK_q, ↓iaK_l, ↓op_move, ↓op_assign, ↓op_load, ↓op_bin, ↓op_ia, ↓td_d, ↓ret_1, ↓cells_c, ↓hd_cons, ↓ty3, ↓sl28, List.getD_cons_zero, List.getD_cons_succ, List.set_cons_zero, List.set_cons_succ, List.length_cons, List.length_nil, Bool.true_and, Nat.reduceAdd, Nat.reduceSub, Nat.reduceMul, Nat.zero_add, Int.toNat_natCast, evK_go, reduceIte, decide_true, Bool.not_true, Nat.reduceEqDiff, Nat.reduceLT, true_and, Int.zero_add, Int.natCast_nonneg]
        refine ⟨by omega, i + 1, by omega, by omega, ?_⟩
        refine Wkn.of [] [] ?_; simp (implicitDefEqProofs := false) (dsimp := false) only [List.set_cons_zero, List.set_cons_succ, Bool.and_self, Nat.reduceAdd, Nat.reduceSub, Nat.reduceMul, List.replicate, evK_go, reduceIte, Nat.reduceEqDiff, Nat.reduceLT, and_self, List.foldl_cons, List.foldl_nil, Int.cast_ofNat_Int, Int.natCast_add, slots, wkL_nil, wkL_cons, wkB_nil, wkR_nil, wkV_j, wkV_d, frz_d, reduceCtorEq]
      · have hp : Path L x i := by
          have hpos : 0 < (M.getD i default).length := by omega
          have h1 := List.getElem_mem hpos
          obtain ⟨c, hc1, _⟩ := dw.pt i _ h1
          rw [hc1] at h1
          exact ((dwi i c).1 h1).1
        simp (implicitDefEqProofs := false) (dsimp := false) only [↓aw_seq, ↓aw_block, ↓aw_skip, ↓aw_loop, ↓aw_reg, ↓Qseq_n, ↓ops_nil, ↓ops_cons, ↓eval_tmp, ↓eval_int, ↓eval_nil, ↓put_some, ↓op_move, ↓op_assign, List.getD_cons_zero, List.getD_cons_succ, List.set_cons_zero, List.set_cons_succ, Nat.reduceAdd, Nat.reduceSub, Nat.reduceMul, evK_go, reduceIte, Nat.reduceEqDiff, Nat.reduceLT]
        refine loopW (fun s : Nat => { tm := slots 120 [(0, .d (I .i64 n)), (2, .d (I .i64 f)), (8, .d (.l (M.map liD))), (10, .d (.l (K.map (I .i64)))), (12, .d (I .i64 i)), (13, .o 0 0 s), (14, .d (I .i64 (wayR K i s).2)), (15, .d (I .i64 s))], bx := [], rw := [some ⟨1, (wayR K i s).1.map nD⟩] })
          (fun s => s ≤ m ∧ WI L m x i (wayR K i s)) (fun s => m - s) 0 ⟨by omega, hstart i him hp⟩ ?_ ?_
        · refine Wkn.of [] [none] ?_
          simp (implicitDefEqProofs := false) (dsimp := false) only [wayR, ↓row_xs, List.set_cons_zero, List.set_cons_succ, List.map_nil, Bool.and_self, Nat.reduceAdd, Nat.reduceSub, Nat.reduceMul, List.replicate, evK_go, reduceIte, Nat.reduceEqDiff, Nat.reduceLT, and_self, List.foldl_cons, List.foldl_nil, Int.cast_ofNat_Int, slots, wkL_nil, wkL_cons, wkB_nil, wkR_nil, wkR_new, wkV_j, wkV_d, nlK_nl, wkV_o, frz_d, oK_zn, reduceCtorEq]
        · rintro s ⟨hs, hwi⟩
          have hwl := wayR_len K i s
          have hes := hend i s hwi
          have hat := hwi.at'
          have hstep : wayR K i (s + 1) = ((wayR K i s).1 ++ [(wayR K i s).2.toNat], K.getD (wayR K i s).2.toNat default) := rfl
          have hnx := hnext i s hwi
          have hnd := hwi.nodup
          have hmem := hwi.mem
          generalize hws : wayR K i s = ws at *
          obtain ⟨way, at'⟩ := ws
          simp only at hwl hes hat hstep hnx hnd hmem
          simp (implicitDefEqProofs := false) (dsimp := false) only [slots, ↓gdK_t, ↓gval_mk, ↓gvL_zero, ↓gvL_succ, ↓aw_seq, ↓aw_reg, ↓ops_cons, ↓ops_guard, ↓eval_tmp, ↓put_some, ↓binE_i, ↓bi_lss, ↓op_move, ↓op_bin, ↓st_tm, List.getD_cons_zero, List.getD_cons_succ, List.set_cons_zero, List.set_cons_succ, Nat.reduceAdd, Nat.reduceSub, Nat.reduceMul, List.replicate, evK_go, reduceIte, Nat.reduceEqDiff, Nat.reduceLT, List.foldl_cons, List.foldl_nil]
          rcases hat with ⟨rfl, hall, hne, hlast'⟩ | ⟨a, rfl, ham, hia, _, _⟩
          · have hin : inB (-1) 0 (n - 1) = false := by simp [inB]
            have hr := hrise i way hnd fun k => ⟨hmem k, hall k⟩
            have hwl1 : 1 ≤ way.length := List.length_pos_iff.2 hne
            have hgl : way.getD (s - 1) default = x := by
              rw [List.getLast?_eq_getElem?, hwl] at hlast'
              rw [List.getD_eq_getElem?_getD, hlast']; rfl
            refine cdK_dec (fun h1 => ?_) (fun h1 => ?_)
            · have hd : decide ((s : Int) < n) = true := decide_eq_true h1
              simp (implicitDefEqProofs := false) (dsimp := false) only [hd, in2_call, hin, ↓cdK_true, ↓cdK_false, ↓gdK_t, ↓gdK_f, ↓gval_mk, ↓gvL_zero, ↓gvL_succ, ↓optK_some, ↓rwK_mk_, ↓atK_H, ↓atH_map, ↓nthK_H, ↓aw_cond, ↓aw_seq, ↓aw_exit, ↓aw_ret, ↓aw_reg, ↓aw_draw, ↓Qseq_n, ↓Qseq_x, ↓Qblk_x, ↓Qret_r, ↓ops_nil, ↓ops_cons, ↓ops_guard, ↓eval_tmp, ↓eval_int, ↓eval_bool, ↓eval_func, ↓put_some, ↓bK_b, ↓iK_i, ↓lenK_o, ↓ev_move, ↓ev_load, ↓ev_bin, ↓ev_ia, ↓ev_len, ↓binE_i, ↓bi_add, ↓bi_sub, ↓bi_neq, ↓in_i64, ↓ldK_e, ↓iaK_o, ↓op_move, ↓op_assign, ↓op_pick, ↓op_bin, ↓op_call, isD_d, ↓fnK_f, ↓call_H, ↓callK_H, ↓allT_nil, ↓allT_cons, ↓td_d, ↓ret_1, ↓draw_H, ↓h_cons, ↓ldH_n, ↓ldH_g, ↓q_bi, ↓q_move, ↓q_load, ↓q_bin, ↓q_ia, ↓il_move, ↓il_load, ↓il_bin, ↓il_ia, ↓il_len, ↓st_tm, ↓row_sz, ↓row_xs, ↓ty3, ↓sl28, List.getD_cons_zero, List.getD_cons_succ, List.set_cons_zero, List.set_cons_succ, List.append_nil, List.all_cons, List.all_nil, Bool.true_and, Bool.and_self, Bool.true_or, Nat.reduceAdd, Nat.reduceSub, Nat.reduceMul, Nat.zero_add, evK_go, reduceIte, decide_true, Bool.not_true, Nat.reduceEqDiff, Nat.reduceLT, and_self, true_and, Int.zero_add]
              refine ⟨by omega, ?_⟩
              refine OrH.l (OrH.l ?_)
              refine OrH.r (AW.frz { tm := slots 120 [(0, .d (I .i64 n)), (2, .d (I .i64 f)), (8, .d (.l (M.map liD))), (10, .d (.l (K.map (I .i64)))), (12, .d (I .i64 i)), (13, .d (.l ((way.map Int.ofNat).map (I .i64)))), (14, .d (I .i64 (-1)))], bx := [], rw := [] } (Wkn.of [] [] ?_) ?_)
              · have e1 : List.take s (way.map nD) = (way.map Int.ofNat).map (I .i64) := by rw [← nD_ints]; exact List.take_of_length_le (by simp [hwl])
                simp (implicitDefEqProofs := false) (dsimp := false) only [e1, ↓optK_some, ↓row_xs, List.getD_cons_zero, List.set_cons_zero, List.set_cons_succ, Bool.and_self, Nat.reduceAdd, Nat.reduceSub, Nat.reduceMul, List.replicate, evK_go, reduceIte, Nat.reduceEqDiff, Nat.reduceLT, and_self, not_false_eq_true, List.drop_zero, List.foldl_cons, List.foldl_nil, slots, wkL_nil, wkL_cons, wkB_nil, wkR_nil, wkV_j, wkV_d, frz_d, frz_o, dl_eq, reduceCtorEq, List.not_mem_nil]
              · have hw1000 : (way.map Int.ofNat).length ≤ 1000 := by simp; omega
                have hrl : (rising (way.map Int.ofNat)).length < 2 ^ 62 := by rw [(rising_spec _).1]; omega
                have hz1 : (s : Int) - 1 = ((s - 1 : Nat) : Int) := by omega
                have hz2 : s - 1 < s := by omega
                have hg2 : (way.map Int.ofNat).getD (s - 1) default = (x : Int) := by rw [List.getD_eq_getElem?_getD, List.getElem?_map]; rw [List.getD_eq_getElem?_getD] at hgl; rw [List.getElem?_eq_getElem (by omega)] at hgl ⊢; exact congrArg Int.ofNat hgl
                have hd2 : decide ((x : Int) = f) = true := by rw [decide_eq_true_eq]; omega
                simp (implicitDefEqProofs := false) (dsimp := false) only [slots, hz1, hz2, hwl, hg2, hd2, hiM, liD, rise_callDQ, hr, ints_callQ, hs62, ↓cdK_false, ↓gdK_f, ↓gval_mk, ↓gvL_zero, ↓gvL_succ, ↓atK_H, ↓atH_map, ↓aw_cond, ↓aw_skip, ↓aw_reg, ↓Qseq_n, ↓Qblk_n, ↓ops_nil, ↓ops_cons, ↓eval_tmp, ↓eval_int, ↓eval_func, ↓put_some, ↓bK_b, ↓iK_i, ↓lenK_l, ↓ev_move, ↓ev_pick, ↓ev_load, ↓ev_bin, ↓ev_not, ↓ev_ia, ↓ev_len, ↓binE_i, ↓bi_add, ↓bi_sub, ↓bi_neq, ↓in_i64, ↓ldK_q, ↓iaK_l, ↓op_move, ↓op_assign, ↓op_bin, isD_d, ↓fnK_f, ↓callKQ_H, ↓allT_nil, ↓allT_cons, ↓td_d, ↓draw_H, ↓h_nil, ↓h_cons, ↓ldH_n, ↓ldH_g, ↓q_call, ↓q_bi, ↓q_move, ↓q_pick, ↓q_load, ↓q_bin, ↓q_un, ↓q_ia, ↓il_move, ↓il_pick, ↓il_load, ↓il_bin, ↓il_un, ↓il_ia, ↓il_call, ↓il_len, ↓st_tm, ↓cells_c, ↓cells_l, ↓hd_cons, ↓ty3, ↓ty28, ↓sl28, ↓sl44, List.getD_cons_zero, List.getD_cons_succ, List.set_cons_zero, List.set_cons_succ, List.append_nil, List.length_cons, List.length_nil, List.length_map, List.all_cons, List.all_nil, Bool.true_and, Bool.and_self, Bool.true_or, Nat.reduceAdd, Nat.reduceSub, Nat.reduceMul, Nat.zero_add, Int.toNat_natCast, List.replicate, evK_go, reduceIte, decide_true, Bool.not_true, Nat.reduceEqDiff, Nat.reduceLT, and_self, true_and, Int.zero_add, List.foldl_cons, List.foldl_nil, Int.natCast_nonneg]
                refine OrH.l ⟨DrawH.of follows_mixed (by kernel_rfl), by omega, ?_⟩
                (repeat refine OrH.l ?_)
                refine ⟨by omega, ?_⟩
                (repeat refine OrH.l ?_)
                refine ⟨by omega, i + 1, by omega, by omega, ?_⟩
                refine Wkn.of [] [] ?_; simp (implicitDefEqProofs := false) (dsimp := false) only [Bool.and_self, Nat.reduceAdd, Nat.reduceSub, Nat.reduceMul, evK_go, reduceIte, Nat.reduceEqDiff, Nat.reduceLT, and_self, Int.cast_ofNat_Int, Int.natCast_add, slots, wkL_nil, wkL_cons, wkB_nil, wkR_nil, wkV_j, wkV_d, frz_d, reduceCtorEq]
            · have hd : decide ((s : Int) < n) = false := decide_eq_false h1
              simp (implicitDefEqProofs := false) (dsimp := false) only [hd, ↓cdK_false, ↓gdK_t, ↓gdK_f, ↓gval_mk, ↓gvL_zero, ↓gvL_succ, ↓optK_some, ↓rwK_mk_, ↓atK_H, ↓atH_map, ↓nthK_H, ↓aw_cond, ↓aw_seq, ↓aw_exit, ↓aw_ret, ↓aw_reg, ↓aw_draw, ↓Qseq_n, ↓Qseq_x, ↓Qblk_x, ↓Qret_r, ↓ops_nil, ↓ops_cons, ↓ops_guard, ↓eval_tmp, ↓eval_int, ↓eval_bool, ↓put_some, ↓bK_b, ↓iK_i, ↓lenK_o, ↓ev_move, ↓ev_load, ↓ev_bin, ↓ev_ia, ↓ev_len, ↓binE_i, ↓bi_add, ↓bi_sub, ↓bi_neq, ↓in_i64, ↓ldK_e, ↓iaK_o, ↓op_move, ↓op_assign, ↓op_pick, ↓op_bin, ↓td_d, ↓ret_1, ↓draw_H, ↓h_cons, ↓ldH_n, ↓ldH_g, ↓q_bi, ↓q_move, ↓q_load, ↓q_bin, ↓q_ia, ↓il_move, ↓il_load, ↓il_bin, ↓il_ia, ↓il_len, ↓st_tm, ↓row_sz, ↓row_xs, ↓ty3, ↓sl28, List.getD_cons_zero, List.getD_cons_succ, List.set_cons_zero, List.set_cons_succ, Bool.true_and, Nat.reduceAdd, Nat.reduceSub, Nat.reduceMul, Nat.zero_add, evK_go, reduceIte, decide_true, Bool.not_true, Nat.reduceEqDiff, Nat.reduceLT, true_and, Int.zero_add]
              refine OrH.r (AW.frz { tm := slots 120 [(0, .d (I .i64 n)), (2, .d (I .i64 f)), (8, .d (.l (M.map liD))), (10, .d (.l (K.map (I .i64)))), (12, .d (I .i64 i)), (13, .d (.l ((way.map Int.ofNat).map (I .i64)))), (14, .d (I .i64 (-1)))], bx := [], rw := [] } (Wkn.of [] [] ?_) ?_)
              · have e1 : List.take s (way.map nD) = (way.map Int.ofNat).map (I .i64) := by rw [← nD_ints]; exact List.take_of_length_le (by simp [hwl])
                simp (implicitDefEqProofs := false) (dsimp := false) only [e1, ↓optK_some, ↓row_xs, List.getD_cons_zero, List.set_cons_zero, List.set_cons_succ, Bool.and_self, Nat.reduceAdd, Nat.reduceSub, Nat.reduceMul, List.replicate, evK_go, reduceIte, Nat.reduceEqDiff, Nat.reduceLT, and_self, not_false_eq_true, List.drop_zero, List.foldl_cons, List.foldl_nil, slots, wkL_nil, wkL_cons, wkB_nil, wkR_nil, wkV_j, wkV_d, frz_d, frz_o, dl_eq, reduceCtorEq, List.not_mem_nil]
              · have hw1000 : (way.map Int.ofNat).length ≤ 1000 := by simp; omega
                have hrl : (rising (way.map Int.ofNat)).length < 2 ^ 62 := by rw [(rising_spec _).1]; omega
                have hz1 : (s : Int) - 1 = ((s - 1 : Nat) : Int) := by omega
                have hz2 : s - 1 < s := by omega
                have hg2 : (way.map Int.ofNat).getD (s - 1) default = (x : Int) := by rw [List.getD_eq_getElem?_getD, List.getElem?_map]; rw [List.getD_eq_getElem?_getD] at hgl; rw [List.getElem?_eq_getElem (by omega)] at hgl ⊢; exact congrArg Int.ofNat hgl
                have hd2 : decide ((x : Int) = f) = true := by rw [decide_eq_true_eq]; omega
                simp (implicitDefEqProofs := false) (dsimp := false) only [slots, hz1, hz2, hwl, hg2, hd2, hiM, liD, rise_callDQ, hr, ints_callQ, hs62, ↓cdK_false, ↓gdK_f, ↓gval_mk, ↓gvL_zero, ↓gvL_succ, ↓atK_H, ↓atH_map, ↓aw_cond, ↓aw_skip, ↓aw_reg, ↓Qseq_n, ↓Qblk_n, ↓ops_nil, ↓ops_cons, ↓eval_tmp, ↓eval_int, ↓eval_func, ↓put_some, ↓bK_b, ↓iK_i, ↓lenK_l, ↓ev_move, ↓ev_pick, ↓ev_load, ↓ev_bin, ↓ev_not, ↓ev_ia, ↓ev_len, ↓binE_i, ↓bi_add, ↓bi_sub, ↓bi_neq, ↓in_i64, ↓ldK_q, ↓iaK_l, ↓op_move, ↓op_assign, ↓op_bin, isD_d, ↓fnK_f, ↓callKQ_H, ↓allT_nil, ↓allT_cons, ↓td_d, ↓draw_H, ↓h_nil, ↓h_cons, ↓ldH_n, ↓ldH_g, ↓q_call, ↓q_bi, ↓q_move, ↓q_pick, ↓q_load, ↓q_bin, ↓q_un, ↓q_ia, ↓il_move, ↓il_pick, ↓il_load, ↓il_bin, ↓il_un, ↓il_ia, ↓il_call, ↓il_len, ↓st_tm, ↓cells_c, ↓cells_l, ↓hd_cons, ↓ty3, ↓ty28, ↓sl28, ↓sl44, List.getD_cons_zero, List.getD_cons_succ, List.set_cons_zero, List.set_cons_succ, List.append_nil, List.length_cons, List.length_nil, List.length_map, List.all_cons, List.all_nil, Bool.true_and, Bool.and_self, Bool.true_or, Nat.reduceAdd, Nat.reduceSub, Nat.reduceMul, Nat.zero_add, Int.toNat_natCast, List.replicate, evK_go, reduceIte, decide_true, Bool.not_true, Nat.reduceEqDiff, Nat.reduceLT, and_self, true_and, Int.zero_add, List.foldl_cons, List.foldl_nil, Int.natCast_nonneg]
                refine OrH.l ⟨DrawH.of follows_mixed (by kernel_rfl), by omega, ?_⟩
                (repeat refine OrH.l ?_)
                refine ⟨by omega, ?_⟩
                (repeat refine OrH.l ?_)
                refine ⟨by omega, i + 1, by omega, by omega, ?_⟩
                refine Wkn.of [] [] ?_; simp (implicitDefEqProofs := false) (dsimp := false) only [Bool.and_self, Nat.reduceAdd, Nat.reduceSub, Nat.reduceMul, evK_go, reduceIte, Nat.reduceEqDiff, Nat.reduceLT, and_self, Int.cast_ofNat_Int, Int.natCast_add, slots, wkL_nil, wkL_cons, wkB_nil, wkR_nil, wkV_j, wkV_d, frz_d, reduceCtorEq]
          · have hsm : s < m := by
              rcases Nat.lt_or_ge s m with h' | h'
              · exact h'
              · have := hes (by omega); omega
            have hd : decide ((s : Int) < n) = true := by rw [decide_eq_true_eq]; omega
            have hin : inB (a : Int) 0 (n - 1) = true := inB_iff.2 ⟨by omega, by omega⟩
            have haK : a < K.length := by omega
            refine cdK_dec (fun h1 => ?_) (fun h1 => by omega)
            simp (implicitDefEqProofs := false) (dsimp := false) only [hd, in2_call, hin, haK, ↓cdK_true, ↓gdK_t, ↓gval_mk, ↓gvL_zero, ↓gvL_succ, ↓optK_some, ↓rwK_mk_, ↓atK_H, ↓atH_map, ↓aw_cond, ↓aw_seq, ↓aw_block, ↓aw_skip, ↓aw_reg, ↓Qseq_n, ↓Qblk_n, ↓ops_nil, ↓ops_cons, ↓ops_guard, ↓eval_tmp, ↓eval_int, ↓eval_func, ↓put_some, ↓bK_b, ↓iK_i, ↓dK_d, ↓binE_i, ↓bi_add, ↓bi_sub, ↓in_i64, ↓ldK_q, ↓iaK_l, ↓op_move, ↓op_assign, ↓op_pick, ↓op_load, ↓op_bin, ↓op_ia, ↓op_append, ↓op_call, isD_d, ↓fnK_f, ↓call_H, ↓callK_H, ↓allT_nil, ↓allT_cons, ↓allD_nil, ↓allD_cons, ↓td_d, ↓app_mk, ↓st_tm, ↓row_sz, ↓row_xs, kill_d, kill_j, kill_o, ↓cells_c, ↓one_i, ↓ap_, ↓ap_o, ↓src_l, ↓bs_, ↓op_bs, ↓bsL_f, ↓stored_mk, ↓sl_nil, ↓sl_cons, ↓sT_move, ↓sT_assign, ↓sT_bs, ↓sT_call, ↓vsz_int, ↓inO_1, ↓fm_nil, ↓fm_cons, ↓hd_cons, ↓ty3, ↓zb3, ↓sl28, List.getD_cons_zero, List.getD_cons_succ, List.set_cons_zero, List.set_cons_succ, List.append_nil, List.map_cons, List.map_nil, List.length_cons, List.length_nil, List.length_map, List.all_cons, List.all_nil, Bool.true_and, Bool.and_self, Bool.true_or, Bool.or_false, Nat.reduceAdd, Nat.reduceSub, Nat.reduceMul, Nat.zero_add, Int.toNat_natCast, evK_go, reduceIte, Nat.reduceEqDiff, Nat.reduceLT, and_self, true_and, Int.zero_add, List.drop_zero, Int.natCast_nonneg]
            refine ⟨by omega, OrH.l (OrH.l ⟨by decide, ⟨fun _ => trivial, by omega, by omega, by omega⟩, by omega, s + 1, ⟨by omega, hnx (by omega)⟩, by omega, ?_⟩)⟩
            refine Wkn.of [] [some 0] ?_
            simp (implicitDefEqProofs := false) (dsimp := false) only [hstep, Int.toNat_natCast, List.map_append, nD, List.getD_cons_zero, List.set_cons_zero, List.set_cons_succ, List.map_cons, List.map_nil, Bool.and_self, Nat.reduceAdd, Nat.reduceSub, Nat.reduceMul, Int.toNat_natCast, List.replicate, evK_go, reduceIte, Nat.reduceEqDiff, Nat.reduceLT, and_self, List.foldl_cons, List.foldl_nil, Int.cast_ofNat_Int, Int.natCast_add, slots, wkL_nil, wkL_cons, wkB_nil, wkR_nil, wkR_some, wkV_j, wkV_d, wkV_o, frz_d, oK_zs, reduceCtorEq]
    · simp (implicitDefEqProofs := false) (dsimp := false) only [↓aw_seq, ↓aw_exit, ↓aw_ret, ↓aw_reg, ↓Qseq_n, ↓Qseq_x, ↓Qblk_x, ↓Qret_r, ↓ops_nil, ↓ops_cons, ↓eval_tmp, ↓eval_bool, ↓put_some, ↓op_assign, ↓td_d, ↓ret_1, List.getD_cons_zero, List.getD_cons_succ, List.set_cons_zero, List.set_cons_succ, Nat.reduceAdd, Nat.reduceSub, Nat.reduceMul, evK_go, reduceIte, Nat.reduceEqDiff, Nat.reduceLT]
end Go.Proofs

namespace Go.Proofs
open Go.Aw
set_option linter.unusedSimpArgs false
set_option maxRecDepth 10000
theorem sym_take {n : Nat} {L : List (Nat × Nat)} {k : Nat} (h : k < L.length) : outS n (L ++ (L.take (k + 1)).map flip) = outF (outS n (L ++ (L.take k).map flip)) (flip (L.getD k default)) := by
  rw [take_succ_getD h, List.map_append, ← List.append_assoc]
  exact outS_snoc _ _ _
theorem beside_spec (n : Nat) (L : List (Nat × Nat)) (hpre : n ≤ 64 ∧ L.length < 2 ^ 62 ∧ Good n L) : FnR Try.prog 90 [I .i64 (n : Int), .l (L.map lnN)] 1 ((outS n (symL L)).map U) := by
  obtain ⟨hn, hl, hg⟩ := hpre
  have hout : n ≤ 64 ∧ L.length < 2 ^ 62 ∧ ∀ p ∈ L, p.1 < n ∧ p.2 < 64 := ⟨hn, hl, fun p hp => by have := hg p hp; omega⟩
  refine FnR.go Try.func90 rfl rfl Try.results90 Try.ntmps90 ?_
  simp (implicitDefEqProofs := false) (dsimp := false) only [↓aw_seq, ↓aw_reg, ↓Qseq_n, ↓ops_nil, ↓ops_cons, ↓eval_tmp, ↓eval_nil, ↓eval_func, ↓put_some, ↓op_move, ↓op_assign, ↓op_call, isD_d, ↓fnK_f, ↓call_H, ↓callK_H, ↓allT_nil, ↓allT_cons, ↓td_d, List.getD_cons_zero, List.getD_cons_succ, List.set_cons_zero, List.set_cons_succ, List.cons_append, List.nil_append, List.append_nil, List.map_cons, List.map_nil, List.length_cons, List.length_nil, List.all_cons, List.all_nil, Bool.and_self, Nat.reduceAdd, Nat.reduceSub, Nat.reduceMul, Nat.zero_add, List.replicate, evK_go, reduceIte, Nat.reduceEqDiff, Nat.reduceLT, and_self, Int.zero_add]
  simp (implicitDefEqProofs := false) (dsimp := false) only [out_call, rflat_U, ↓aw_seq, ↓aw_block, ↓aw_loop, ↓aw_reg, ↓Qseq_n, ↓ops_nil, ↓ops_cons, ↓eval_tmp, ↓eval_int, ↓put_some, ↓lenK_l, ↓op_move, ↓op_assign, ↓op_len, ↓addRow_mk, ↓st_rw, ↓sl22, List.getD_cons_zero, List.getD_cons_succ, List.set_cons_zero, List.set_cons_succ, List.nil_append, List.length_nil, List.length_map, Bool.true_and, Bool.or_true, Nat.reduceAdd, Nat.reduceSub, Nat.reduceMul, evK_go, reduceIte, Nat.reduceEqDiff, Nat.reduceLT, true_and]
  refine OrH.l (OrH.l ⟨hout, ?_⟩)
  have h0 := outS_len n L
  simp (implicitDefEqProofs := false) (dsimp := false) only [h0]
  refine loopW (fun k : Nat => { tm := slots 31 [(5, .o 0 0 n), (11, .d (.l (L.map lnN))), (12, .d (I .i64 L.length)), (13, .d (I .i64 k))], bx := [], rw := [some ⟨1, (outS n (L ++ (L.take k).map flip)).map U⟩] })
    (fun k => k ≤ L.length) (fun k => L.length - k) 0 (by simp) ?_ ?_
  · refine Wkn.of [] [some 0] ?_
    simp (implicitDefEqProofs := false) (dsimp := false) only [List.append_nil, List.getD_cons_zero, List.set_cons_zero, List.set_cons_succ, List.append_nil, List.map_nil, Bool.and_self, Nat.reduceAdd, Nat.reduceSub, Nat.reduceMul, List.replicate, evK_go, reduceIte, Nat.reduceEqDiff, Nat.reduceLT, and_self, List.take_zero, List.foldl_cons, List.foldl_nil, Int.cast_ofNat_Int, slots, wkL_nil, wkL_cons, wkB_nil, wkR_nil, wkR_some, wkV_j, wkV_d, wkV_o, frz_d, oK_zs, reduceCtorEq]
  · intro k hk
    simp (implicitDefEqProofs := false) (dsimp := false) only [slots, ↓aw_cond, ↓aw_seq, ↓aw_reg, ↓Qseq_n, ↓ops_nil, ↓ops_cons, ↓eval_tmp, ↓put_some, ↓bK_b, ↓binE_i, ↓bi_lss, ↓op_bin, List.getD_cons_zero, List.getD_cons_succ, List.set_cons_zero, List.set_cons_succ, Nat.reduceAdd, Nat.reduceSub, Nat.reduceMul, List.replicate, evK_go, reduceIte, Nat.reduceEqDiff, Nat.reduceLT, List.foldl_cons, List.foldl_nil, Int.ofNat_lt]
    refine cdK_dec (fun h => ?_) (fun h => ?_)
    · have hp := hg _ (getD_mem h)
      have hS := outS_len n (L ++ (L.take k).map flip)
      have hlt : ∀ x ∈ outS n (L ++ (L.take k).map flip), x < 2 ^ 64 := outS_lt' hn fun p hp => by
        rcases List.mem_append.1 hp with hp | hp
        · exact hg p hp
        · obtain ⟨q, hq, rfl⟩ := List.mem_map.1 hp
          have := hg q (List.mem_of_mem_take hq)
          exact ⟨this.2, this.1⟩
      have e := sym_take (n := n) h
      generalize outS n (L ++ (L.take k).map flip) = S at hS hlt e ⊢
      generalize hab : L.getD k default = p at hp e
      obtain ⟨a, b⟩ := p
      simp only at hp
      have hbS : b < S.length := by omega
      have hltb := hlt _ (getD_mem hbS)
      have ha64 : a < 64 := by omega
      simp (implicitDefEqProofs := false) (dsimp := false) only [h, lnN, hab, hbS, with_callQ, hltb, ha64, ↓optK_some, ↓rwK_mk_, ↓atK_H, ↓atH_map, ↓nthK_H, ↓nthH_zero, ↓nthH_succ, ↓aw_seq, ↓aw_block, ↓aw_skip, ↓aw_reg, ↓aw_draw, ↓Qseq_n, ↓Qblk_n, ↓ops_nil, ↓ops_cons, ↓eval_tmp, ↓eval_int, ↓eval_func, ↓put_some, ↓put_none, ↓iK_i, ↓dK_d, ↓ev_move, ↓ev_load, ↓ev_fa, ↓ev_ia, ↓binE_i, ↓bi_add, ↓in_i64, ↓ldK_q, ↓ldK_p, ↓ldK_e, ↓faK_p, ↓iaK_l, ↓iaK_o, ↓op_move, ↓op_load, ↓op_bin, ↓op_ia, ↓op_alloc, ↓op_store, isD_d, ↓fnK_f, ↓callKQ_H, ↓allT_nil, ↓allT_cons, ↓td_d, ↓draw_H, ↓h_cons, ↓ldH_t, ↓ldH_n, ↓q_call, ↓q_move, ↓q_load, ↓q_fa, ↓q_ia, ↓il_move, ↓il_load, ↓il_fa, ↓il_ia, ↓il_call, ↓il_store, ↓addBox_mk, ↓setBox_mk, ↓setRow_mk, ↓st_bx, ↓row_sz, ↓row_xs, ↓cells_c, ↓cells_s, ↓vcells_s, ↓one_i, ↓vone_d, constV_a, ↓st_p, ↓st_e, ↓ty3, ↓sl22, ↓ty35, ↓zb35, ↓fd35_0, ↓fd35_1, ↓sl84, ↓ty87, List.getD_cons_zero, List.getD_cons_succ, List.set_cons_zero, List.set_cons_succ, List.nil_append, List.append_nil, List.map_cons, List.map_nil, List.length_cons, List.length_nil, List.all_cons, List.all_nil, Bool.true_and, Bool.and_self, Bool.true_or, Nat.reduceAdd, Nat.reduceSub, Nat.reduceMul, Nat.zero_add, Nat.add_zero, Int.toNat_natCast, evK_go, reduceIte, decide_true, Nat.reduceEqDiff, Nat.reduceLT, and_self, true_and, Int.zero_add, List.take_succ_cons, List.take_nil, Int.ofNat_lt, Int.natCast_nonneg]
      refine ⟨by decide, OrH.l ⟨DrawH.of follows_mixed (by kernel_rfl), by omega, OrH.l (OrH.l ⟨by omega, by omega, k + 1, by omega, by omega, ?_⟩)⟩⟩
      refine Wkn.of [] [some 0] ?_
      simp (implicitDefEqProofs := false) (dsimp := false) only [e, outF, flip, List.map_set, List.getD_cons_zero, List.set_cons_zero, List.set_cons_succ, Bool.and_self, Nat.reduceAdd, Nat.reduceSub, Nat.reduceMul, List.replicate, evK_go, reduceIte, Nat.reduceEqDiff, Nat.reduceLT, and_self, List.foldl_cons, List.foldl_nil, Int.cast_ofNat_Int, Int.natCast_add, slots, wkL_nil, wkL_cons, wkB_nil, wkR_nil, wkR_some, wkV_j, wkV_d, wkV_o, frz_d, oK_zs, reduceCtorEq]
    · obtain rfl : k = L.length := by omega
      rw [List.take_length]
      simp (implicitDefEqProofs := false) (dsimp := false) only [↓optK_some, ↓rwK_mk_, ↓aw_seq, ↓aw_exit, ↓aw_ret, ↓aw_reg, ↓Qseq_n, ↓Qseq_x, ↓Qblk_x, ↓ops_nil, ↓ops_cons, ↓eval_tmp, ↓put_some, ↓op_move, ↓op_assign, ↓row_sz, ↓row_xs, ↓Qrow_r, ↓rowK_o, List.getD_cons_zero, List.getD_cons_succ, List.set_cons_zero, List.set_cons_succ, Bool.true_and, Nat.reduceAdd, Nat.reduceSub, Nat.reduceMul, evK_go, reduceIte, decide_false, Nat.reduceEqDiff, Nat.reduceLT, true_and, Nat.lt_irrefl]
      have h4 := outS_len n (L ++ L.map flip)
      exact List.take_of_length_le (by simp [h4])
theorem beside_call (n : Nat) (L : List (Nat × Nat)) (pure : Bool) (σ : St) (dst : Option Tmp) (K : St → Prop) : CallH Try.prog 90 [I .i64 (n : Int), .l (L.map lnN)] pure σ dst (.mk : Hid K) = OrH ((n ≤ 64 ∧ L.length < 2 ^ 62 ∧ Good n L) ∧ (pure || Res.flat (.row 1 ((outS n (symL L)).map U))) = true ∧ evK ((σ.addRow ⟨1, (outS n (symL L)).map U⟩).put dst (.o σ.rw.length 0 (List.length ((outS n (symL L)).map U)))) (.mk : Hid K)) (.mk : Hid (CallH Try.prog 90 [I .i64 (n : Int), .l (L.map lnN)] pure σ dst (.mk : Hid K))) := CallH.eqR (fun h => beside_spec n L h) pure σ dst K
theorem beside_callD (n : Nat) (L : List (Nat × Nat)) (pure : Bool) (σ : St) (dst : Option Tmp) (K : St → Prop) : CallH Try.prog 90 [I .i64 (n : Int), .l (L.map lnN)] pure σ dst (.mk : Hid K) = OrH ((n ≤ 64 ∧ L.length < 2 ^ 62 ∧ Good n L) ∧ (pure || D.flat (.l ((outS n (symL L)).map U))) = true ∧ evK (σ.put dst (.d (.l ((outS n (symL L)).map U)))) (.mk : Hid K)) (.mk : Hid (CallH Try.prog 90 [I .i64 (n : Int), .l (L.map lnN)] pure σ dst (.mk : Hid K))) := CallH.eq (fun h => ((fun h => beside_spec n L h) h).data) pure σ dst K
theorem beside_callDQ (n : Nat) (L : List (Nat × Nat)) (pure : Bool) (C : V → Prop) : CallQ Try.prog 90 [I .i64 (n : Int), .l (L.map lnN)] pure (.mk : Hid C) = OrH ((n ≤ 64 ∧ L.length < 2 ^ 62 ∧ Good n L) ∧ (pure || D.flat (.l ((outS n (symL L)).map U))) = true ∧ evK (V.d (.l ((outS n (symL L)).map U))) (.mk : Hid C)) (.mk : Hid (CallQ Try.prog 90 [I .i64 (n : Int), .l (L.map lnN)] pure (.mk : Hid C))) := CallQ.eq (fun h => ((fun h => beside_spec n L h) h).data) pure C
theorem cut1_spec (j : Nat) (next : List Nat) (s w : Nat) (hpre : (j < 64 ∧ pts s ≠ [] ∧ low s < next.length) ∧ next.length ≤ 64 ∧ w < 2 ^ next.length ∧ ∀ x ∈ next, x < 2 ^ 64) : FnD Try.prog 92 [I .i64 (j : Int), .q [.l ((ptsI s).map (I .i64))], .q [.l (next.map U)], .q [U w]] (Bo (!(reach next w (low s)).testBit j)) := by
  obtain ⟨⟨h1, h2, h3⟩, h4, h5, h6⟩ := hpre
  have hre : low s < next.length ∧ next.length ≤ 64 ∧ w < 2 ^ next.length ∧ ∀ x ∈ next, x < 2 ^ 64 := ⟨h3, h4, h5, h6⟩
  have hpos : 0 < (ptsI s).length := by rw [ptsI, List.length_map]; exact List.length_pos_iff.2 h2
  have hg : (ptsI s).getD 0 default = (low s : Int) := by
    unfold low ptsI
    cases hp : pts s with
    | nil => exact absurd hp h2
    | cons x t => rfl
  have hrl : reach next w (low s) < 2 ^ 64 := reach_lt h6 (by omega)
  have hj : j ≤ 64 := by omega
  refine FnD.go Try.func92 rfl rfl Try.results92 Try.ntmps92 ?_
  simp (implicitDefEqProofs := false) (dsimp := false) only [↓atK_H, ↓atH_map, ↓aw_seq, ↓aw_reg, ↓aw_draw, ↓Qseq_n, ↓ops_nil, ↓ops_cons, ↓eval_tmp, ↓eval_int, ↓eval_bool, ↓eval_func, ↓put_some, ↓iK_i, ↓ev_load, ↓ev_ia, ↓ldK_q, ↓iaK_l, ↓op_assign, isD_d, ↓fnK_f, ↓callKQ_H, ↓allT_nil, ↓allT_cons, ↓td_d, ↓draw_H, ↓h_cons, ↓ldH_n, ↓q_call, ↓q_load, ↓q_ia, ↓il_load, ↓il_ia, ↓il_call, ↓cells_c, ↓hd_cons, ↓ty3, ↓ty28, ↓sl28, ↓ty84, ↓ty87, List.getD_cons_zero, List.getD_cons_succ, List.set_cons_zero, List.set_cons_succ, List.cons_append, List.nil_append, List.append_nil, List.map_cons, List.map_nil, List.length_cons, List.length_nil, List.all_cons, List.all_nil, Bool.true_and, Bool.and_self, Nat.reduceAdd, Nat.reduceSub, Nat.reduceMul, Nat.zero_add, Int.toNat_zero, List.replicate, evK_go, reduceIte, Nat.reduceEqDiff, Nat.reduceLT, and_self, true_and, Int.zero_add]
  refine OrH.l ⟨DrawH.of follows_mixed (by kernel_rfl), ?_⟩
  simp (implicitDefEqProofs := false) (dsimp := false) only [hpos, hg, reach_callQ, hasS_callQ, hre, hrl, hj, ↓aw_ret, ↓Qseq_n, ↓Qret_r, ↓eval_tmp, ↓eval_func, ↓put_some, ↓bK_b, ↓ev_move, ↓ev_assign, ↓ev_not, ↓orH_T, isD_d, ↓fnK_f, ↓callKQ_H, ↓allT_nil, ↓allT_cons, ↓td_d, ↓ret_1, ↓h_nil, ↓h_cons, ↓ldH_n, ↓q_call, ↓q_move, ↓q_assign, ↓q_un, ↓il_move, ↓il_assign, ↓il_un, ↓il_call, List.getD_cons_zero, List.getD_cons_succ, List.set_cons_zero, List.set_cons_succ, List.append_nil, List.all_cons, List.all_nil, Bool.and_true, Bool.true_and, Bool.and_self, Bool.true_or, Nat.reduceAdd, Nat.reduceSub, Nat.reduceMul, evK_go, reduceIte, Nat.reduceEqDiff, Nat.reduceLT, and_self, true_and, and_true]
  exact ⟨by decide, OrH.l (OrH.l h6)⟩
theorem cut1_call (j : Nat) (next : List Nat) (s w : Nat) (pure : Bool) (σ : St) (dst : Option Tmp) (K : St → Prop) : CallH Try.prog 92 [I .i64 (j : Int), .q [.l ((ptsI s).map (I .i64))], .q [.l (next.map U)], .q [U w]] pure σ dst (.mk : Hid K) = OrH (((j < 64 ∧ pts s ≠ [] ∧ low s < next.length) ∧ next.length ≤ 64 ∧ w < 2 ^ next.length ∧ ∀ x ∈ next, x < 2 ^ 64) ∧ (pure || D.flat (Bo (!(reach next w (low s)).testBit j))) = true ∧ evK (σ.put dst (.d (Bo (!(reach next w (low s)).testBit j)))) (.mk : Hid K)) (.mk : Hid (CallH Try.prog 92 [I .i64 (j : Int), .q [.l ((ptsI s).map (I .i64))], .q [.l (next.map U)], .q [U w]] pure σ dst (.mk : Hid K))) := CallH.eq (cut1_spec j next s w) pure σ dst K
theorem cut1_callQ (j : Nat) (next : List Nat) (s w : Nat) (pure : Bool) (C : V → Prop) : CallQ Try.prog 92 [I .i64 (j : Int), .q [.l ((ptsI s).map (I .i64))], .q [.l (next.map U)], .q [U w]] pure (.mk : Hid C) = OrH (((j < 64 ∧ pts s ≠ [] ∧ low s < next.length) ∧ next.length ≤ 64 ∧ w < 2 ^ next.length ∧ ∀ x ∈ next, x < 2 ^ 64) ∧ (pure || D.flat (Bo (!(reach next w (low s)).testBit j))) = true ∧ evK (V.d (Bo (!(reach next w (low s)).testBit j))) (.mk : Hid C)) (.mk : Hid (CallQ Try.prog 92 [I .i64 (j : Int), .q [.l ((ptsI s).map (I .i64))], .q [.l (next.map U)], .q [U w]] pure (.mk : Hid C))) := CallQ.eq (cut1_spec j next s w) pure C
/-- The place of the first number of which p holds. -/
def firstI (p : Int → Bool) (l : List Int) : Int := match l.findIdx? p with
  | some k => (k : Int)
  | none => -1
theorem firstI_at {p : Int → Bool} {l : List Int} {k : Nat} (h : k < l.length) (h0 : ∀ x ∈ l.take k, p x = false) (hp : p (l.getD k default) = true) : firstI p l = k := by
  unfold firstI
  have : l.findIdx? p = some k := by
    rw [List.findIdx?_eq_some_iff_getElem]
    refine ⟨h, ?_, fun j hj => ?_⟩
    · rw [List.getD_eq_getElem?_getD, List.getElem?_eq_getElem h] at hp
      exact hp
    · have := h0 (l[j]'(by omega)) (by rw [List.mem_take_iff_getElem]; exact ⟨j, by omega, rfl⟩)
      simpa using this
  rw [this]
theorem firstI_no {p : Int → Bool} {l : List Int} (h0 : ∀ x ∈ l, p x = false) : firstI p l = -1 := by
  unfold firstI
  have : l.findIdx? p = none := by
    rw [List.findIdx?_eq_none_iff]
    exact h0
  rw [this]
theorem firstI_any (p : Int → Bool) (l : List Int) : decide (0 ≤ firstI p l) = l.any p := by
  unfold firstI
  cases h : l.findIdx? p with
  | some k =>
    rw [List.findIdx?_eq_some_iff_getElem] at h
    obtain ⟨h1, h2, _⟩ := h
    have : l.any p = true := List.any_eq_true.2 ⟨_, List.getElem_mem h1, h2⟩
    rw [this]; simp
  | none =>
    rw [List.findIdx?_eq_none_iff] at h
    have : l.any p = false := by
      rw [List.any_eq_false]
      intro x hx; rw [h x hx]; decide
    rw [this]; decide
theorem idxF_spec (g : FuncId) (caps : List D) (p : Int → Bool) (l : List Int) (hpre : l.length < 2 ^ 62) (hf : ∀ x ∈ l, FnD Try.prog g (I .i64 x :: caps) (Bo (p x))) : FnD Try.prog 102 [.l (l.map (I .i64)), .f (.func g) caps] (I .i64 (firstI p l)) := by
  refine FnD.go Try.func102 rfl rfl Try.results102 Try.ntmps102 ?_
  simp (implicitDefEqProofs := false) (dsimp := false) only [↓aw_seq, ↓aw_block, ↓aw_loop, ↓aw_reg, ↓Qseq_n, ↓ops_nil, ↓ops_cons, ↓eval_tmp, ↓eval_int, ↓put_some, ↓lenK_l, ↓op_move, ↓op_assign, ↓op_len, ↓sl28, List.getD_cons_zero, List.getD_cons_succ, List.set_cons_zero, List.set_cons_succ, List.cons_append, List.nil_append, List.map_cons, List.map_nil, List.length_cons, List.length_nil, List.length_map, Nat.reduceAdd, Nat.reduceSub, Nat.reduceMul, Nat.zero_add, List.replicate, evK_go, reduceIte, Nat.reduceEqDiff, Nat.reduceLT, Int.zero_add]
  refine loopW (fun k : Nat => { tm := slots 19 [(0, .d (.l (l.map (I .i64)))), (1, .d (.f (.func g) caps)), (7, .d (I .i64 l.length)), (8, .d (I .i64 k))], bx := [], rw := [] })
    (fun k => k ≤ l.length ∧ ∀ x ∈ l.take k, p x = false) (fun k => l.length - k) 0 ⟨by simp, by simp⟩ ?_ ?_
  · refine Wkn.of [] [] ?_; simp (implicitDefEqProofs := false) (dsimp := false) only [List.set_cons_zero, List.set_cons_succ, Bool.and_self, Nat.reduceAdd, Nat.reduceSub, Nat.reduceMul, List.replicate, evK_go, reduceIte, Nat.reduceEqDiff, Nat.reduceLT, and_self, List.foldl_cons, List.foldl_nil, Int.cast_ofNat_Int, slots, wkL_nil, wkL_cons, wkB_nil, wkR_nil, wkV_j, wkV_d, frz_d, reduceCtorEq]
  · rintro k ⟨h1, h2⟩
    simp (implicitDefEqProofs := false) (dsimp := false) only [slots, ↓aw_cond, ↓aw_seq, ↓aw_reg, ↓Qseq_n, ↓ops_nil, ↓ops_cons, ↓eval_tmp, ↓put_some, ↓bK_b, ↓binE_i, ↓bi_lss, ↓op_bin, List.getD_cons_zero, List.getD_cons_succ, List.set_cons_zero, List.set_cons_succ, Nat.reduceAdd, Nat.reduceSub, Nat.reduceMul, List.replicate, evK_go, reduceIte, Nat.reduceEqDiff, Nat.reduceLT, List.foldl_cons, List.foldl_nil, Int.ofNat_lt]
    refine cdK_dec (fun h => ?_) (fun h => ?_)
    · have hc := CallH.eq0 (hf _ (getD_mem h))
      simp (implicitDefEqProofs := false) (dsimp := false) only [h, ↓atK_H, ↓atH_map, ↓aw_seq, ↓aw_block, ↓aw_skip, ↓aw_reg, ↓Qseq_n, ↓ops_nil, ↓ops_cons, ↓eval_tmp, ↓put_some, ↓iK_i, ↓ldK_q, ↓iaK_l, ↓op_move, ↓op_assign, ↓op_load, ↓op_ia, ↓op_call, isD_d, ↓fnK_f, ↓call_H, ↓callK_H, ↓allT_nil, ↓allT_cons, ↓td_d, ↓cells_c, ↓hd_cons, ↓ty3, ↓sl28, List.getD_cons_zero, List.getD_cons_succ, List.set_cons_zero, List.set_cons_succ, List.cons_append, List.nil_append, List.length_cons, List.length_nil, List.all_cons, List.all_nil, Bool.true_and, Bool.and_self, Nat.reduceAdd, Nat.reduceSub, Nat.reduceMul, Nat.zero_add, Int.toNat_natCast, evK_go, reduceIte, decide_true, Nat.reduceEqDiff, Nat.reduceLT, and_self, true_and, Int.zero_add, Int.natCast_nonneg]
      simp (implicitDefEqProofs := false) (dsimp := false) only [hc, ↓aw_cond, ↓Qseq_n, ↓ops_nil, ↓eval_tmp, ↓put_some, ↓bK_b, List.getD_cons_zero, List.getD_cons_succ, List.set_cons_zero, List.set_cons_succ, Bool.true_and, Bool.true_or, Nat.reduceAdd, Nat.reduceSub, Nat.reduceMul, evK_go, reduceIte, Nat.reduceEqDiff, Nat.reduceLT, true_and]
      refine OrH.l (OrH.l (cdK_split (fun hb => ?_) (fun hb => ?_)))
      · simp (implicitDefEqProofs := false) (dsimp := false) only [firstI_at h h2 hb, ↓aw_seq, ↓aw_ret, ↓aw_reg, ↓Qseq_n, ↓Qseq_r, ↓Qblk_r, ↓Qret_r, ↓ops_nil, ↓ops_cons, ↓eval_tmp, ↓put_some, ↓op_move, ↓op_assign, ↓td_d, ↓ret_1, List.getD_cons_zero, List.getD_cons_succ, List.set_cons_zero, List.set_cons_succ, Nat.reduceAdd, Nat.reduceSub, Nat.reduceMul, evK_go, reduceIte, Nat.reduceEqDiff, Nat.reduceLT]
      · simp (implicitDefEqProofs := false) (dsimp := false) only [↓aw_skip, ↓aw_reg, ↓Qseq_n, ↓Qblk_n, ↓ops_nil, ↓ops_cons, ↓eval_tmp, ↓eval_int, ↓put_some, ↓binE_i, ↓bi_add, ↓in_i64, ↓op_move, ↓op_bin, List.getD_cons_zero, List.getD_cons_succ, List.set_cons_zero, List.set_cons_succ, Nat.reduceAdd, Nat.reduceSub, Nat.reduceMul, evK_go, reduceIte, Nat.reduceEqDiff, Nat.reduceLT]
        refine ⟨by omega, k + 1, ⟨by omega, fun x hx => ?_⟩, by omega, ?_⟩
        · rw [take_succ_getD h, List.mem_append, List.mem_singleton] at hx
          rcases hx with hx | rfl
          · exact h2 x hx
          · exact hb
        · refine Wkn.of [] [] ?_; simp (implicitDefEqProofs := false) (dsimp := false) only [List.set_cons_zero, List.set_cons_succ, Bool.and_self, Nat.reduceAdd, Nat.reduceSub, Nat.reduceMul, List.replicate, evK_go, reduceIte, Nat.reduceEqDiff, Nat.reduceLT, and_self, List.foldl_cons, List.foldl_nil, Int.cast_ofNat_Int, Int.natCast_add, slots, wkL_nil, wkL_cons, wkB_nil, wkR_nil, wkV_j, wkV_d, frz_d, reduceCtorEq]
    · obtain rfl : k = l.length := by omega
      rw [List.take_length] at h2
      simp (implicitDefEqProofs := false) (dsimp := false) only [firstI_no h2, ↓aw_seq, ↓aw_exit, ↓aw_ret, ↓aw_reg, ↓Qseq_n, ↓Qseq_x, ↓Qblk_x, ↓Qret_r, ↓ops_nil, ↓ops_cons, ↓eval_tmp, ↓eval_int, ↓put_some, ↓op_assign, ↓td_d, ↓ret_1, List.getD_cons_zero, List.getD_cons_succ, List.set_cons_zero, List.set_cons_succ, Nat.reduceAdd, Nat.reduceSub, Nat.reduceMul, evK_go, reduceIte, decide_false, Nat.reduceEqDiff, Nat.reduceLT, Nat.lt_irrefl]
theorem cut3_spec (s w : Nat) (next : List Nat) (hpre : (∀ j ∈ pts s, j < next.length) ∧ next.length ≤ 64 ∧ w < 2 ^ next.length ∧ ∀ x ∈ next, x < 2 ^ 64) : FnD Try.prog 91 [.l ((ptsI s).map (I .i64)), .f (.func 92) [.q [.l ((ptsI s).map (I .i64))], .q [.l (next.map U)], .q [U w]]] (Bo ((pts s).any fun j => !(reach next w (low s)).testBit j)) := by
  obtain ⟨h1, h2, h3, h4⟩ := hpre
  have hl : (ptsI s).length < 2 ^ 62 := by have := ptsI_len s; omega
  have hf : ∀ x ∈ ptsI s, FnD Try.prog 92 (I .i64 x :: [.q [.l ((ptsI s).map (I .i64))], .q [.l (next.map U)], .q [U w]]) (Bo (!(reach next w (low s)).testBit x.toNat)) := fun x hx => by
    obtain ⟨c, hc, rfl⟩ := List.mem_map.1 hx
    have hne : pts s ≠ [] := List.ne_nil_of_mem hc
    have hlow := h1 _ (low_mem hne)
    exact cut1_spec c next s w ⟨⟨((pts_mem _ _).1 hc).1, hne, hlow⟩, h2, h3, h4⟩
  have hcall := CallH.eq0 (idxF_spec 92 [.q [.l ((ptsI s).map (I .i64))], .q [.l (next.map U)], .q [U w]] (fun x => !(reach next w (low s)).testBit x.toNat) (ptsI s) hl hf)
  have e : (decide (0 ≤ firstI (fun x => !(reach next w (low s)).testBit x.toNat) (ptsI s))) = (pts s).any fun j => !(reach next w (low s)).testBit j := by
    rw [firstI_any]
    unfold ptsI
    rw [List.any_map]; rfl
  refine FnD.go Try.func91 rfl rfl Try.results91 Try.ntmps91 ?_
  simp (implicitDefEqProofs := false) (dsimp := false) only [↓aw_seq, ↓aw_reg, ↓Qseq_n, ↓ops_nil, ↓ops_cons, ↓eval_tmp, ↓eval_bool, ↓eval_func, ↓put_some, ↓op_move, ↓op_assign, ↓op_call, isD_d, ↓fnK_f, ↓call_H, ↓callK_H, ↓allT_nil, ↓allT_cons, ↓td_d, List.getD_cons_zero, List.getD_cons_succ, List.set_cons_zero, List.set_cons_succ, List.cons_append, List.nil_append, List.append_nil, List.map_cons, List.map_nil, List.length_cons, List.length_nil, List.all_cons, List.all_nil, Bool.and_self, Nat.reduceAdd, Nat.reduceSub, Nat.reduceMul, Nat.zero_add, List.replicate, evK_go, reduceIte, Nat.reduceEqDiff, Nat.reduceLT, and_self, Int.zero_add]
  simp (implicitDefEqProofs := false) (dsimp := false) only [hcall, ↓aw_ret, ↓Qseq_n, ↓Qret_r, ↓ops_nil, ↓ops_cons, ↓eval_tmp, ↓eval_int, ↓put_some, ↓binE_i, ↓bi_geq, ↓op_assign, ↓op_bin, ↓td_d, ↓ret_1, List.getD_cons_zero, List.getD_cons_succ, List.set_cons_zero, List.set_cons_succ, Bool.true_and, Bool.true_or, Nat.reduceAdd, Nat.reduceSub, Nat.reduceMul, evK_go, reduceIte, Nat.reduceEqDiff, Nat.reduceLT, true_and]
  (repeat refine OrH.l ?_)
  rw [e]
theorem cut3_call (s w : Nat) (next : List Nat) (pure : Bool) (σ : St) (dst : Option Tmp) (K : St → Prop) : CallH Try.prog 91 [.l ((ptsI s).map (I .i64)), .f (.func 92) [.q [.l ((ptsI s).map (I .i64))], .q [.l (next.map U)], .q [U w]]] pure σ dst (.mk : Hid K) = OrH (((∀ j ∈ pts s, j < next.length) ∧ next.length ≤ 64 ∧ w < 2 ^ next.length ∧ ∀ x ∈ next, x < 2 ^ 64) ∧ (pure || D.flat (Bo ((pts s).any fun j => !(reach next w (low s)).testBit j))) = true ∧ evK (σ.put dst (.d (Bo ((pts s).any fun j => !(reach next w (low s)).testBit j)))) (.mk : Hid K)) (.mk : Hid (CallH Try.prog 91 [.l ((ptsI s).map (I .i64)), .f (.func 92) [.q [.l ((ptsI s).map (I .i64))], .q [.l (next.map U)], .q [U w]]] pure σ dst (.mk : Hid K))) := CallH.eq (cut3_spec s w next) pure σ dst K
theorem cut3_callQ (s w : Nat) (next : List Nat) (pure : Bool) (C : V → Prop) : CallQ Try.prog 91 [.l ((ptsI s).map (I .i64)), .f (.func 92) [.q [.l ((ptsI s).map (I .i64))], .q [.l (next.map U)], .q [U w]]] pure (.mk : Hid C) = OrH (((∀ j ∈ pts s, j < next.length) ∧ next.length ≤ 64 ∧ w < 2 ^ next.length ∧ ∀ x ∈ next, x < 2 ^ 64) ∧ (pure || D.flat (Bo ((pts s).any fun j => !(reach next w (low s)).testBit j))) = true ∧ evK (V.d (Bo ((pts s).any fun j => !(reach next w (low s)).testBit j))) (.mk : Hid C)) (.mk : Hid (CallQ Try.prog 91 [.l ((ptsI s).map (I .i64)), .f (.func 92) [.q [.l ((ptsI s).map (I .i64))], .q [.l (next.map U)], .q [U w]]] pure (.mk : Hid C))) := CallQ.eq (cut3_spec s w next) pure C
def cutR (n : Int) (l : List (Int × Int)) : List Nat := if chk n l = 0 then cutL n.toNat (natL l) else []
def cutK (m : Nat) (L : List (Nat × Nat)) (k : Nat) : List Nat := (List.range k).filter (cutB m L)
theorem cutK_succ (m : Nat) (L : List (Nat × Nat)) (k : Nat) : cutK m L (k + 1) = cutK m L k ++ (if cutB m L k then [k] else []) := by
  unfold cutK
  rw [List.range_succ, List.filter_append]
  simp [List.filter_cons]
theorem cutK_len (m : Nat) (L : List (Nat × Nat)) (k : Nat) : (cutK m L k).length ≤ k := Nat.le_trans (List.length_filter_le _ _) (by simp)
theorem points_spec (n : Int) (l : List (Int × Int)) (hpre : l.length < 2 ^ 62) : FnD Try.prog 56 [I .i64 n, .l (l.map lnD)] (.t [.l ((cutR n l).map nD), erD (chk n l)]) := by
  refine FnD.go Try.func56 rfl rfl Try.results56 Try.ntmps56 ?_
  simp (implicitDefEqProofs := false) (dsimp := false) only [↓aw_seq, ↓aw_reg, ↓Qseq_n, ↓ops_nil, ↓ops_cons, ↓eval_tmp, ↓eval_nil, ↓eval_func, ↓put_some, ↓op_move, ↓op_assign, ↓op_call, isD_d, ↓fnK_f, ↓call_H, ↓callK_H, ↓allT_nil, ↓allT_cons, ↓td_d, List.getD_cons_zero, List.getD_cons_succ, List.set_cons_zero, List.set_cons_succ, List.cons_append, List.nil_append, List.append_nil, List.map_cons, List.map_nil, List.length_cons, List.length_nil, List.all_cons, List.all_nil, Bool.and_self, Nat.reduceAdd, Nat.reduceSub, Nat.reduceMul, Nat.zero_add, List.replicate, evK_go, reduceIte, Nat.reduceEqDiff, Nat.reduceLT, and_self, Int.zero_add]
  simp (implicitDefEqProofs := false) (dsimp := false) only [gcheck_call, eval_nilI, ↓er_neq, er_flat, ↓cdK_not, ↓aw_cond, ↓aw_seq, ↓aw_reg, ↓Qseq_n, ↓ops_nil, ↓ops_cons, ↓eval_tmp, ↓put_some, ↓bK_b, ↓op_move, ↓op_assign, ↓op_bin, List.getD_cons_zero, List.getD_cons_succ, List.set_cons_zero, List.set_cons_succ, Bool.true_and, Bool.or_true, Nat.reduceAdd, Nat.reduceSub, Nat.reduceMul, evK_go, reduceIte, Nat.reduceEqDiff, Nat.reduceLT, true_and]
  refine OrH.l (OrH.l ⟨hpre, ?_⟩)
  refine cdK_dec (fun hc => ?_) (fun hc => ?_)
  rotate_left
  · simp (implicitDefEqProofs := false) (dsimp := false) only [cutR, hc, ↓aw_seq, ↓aw_ret, ↓aw_reg, ↓Qseq_n, ↓Qseq_r, ↓Qret_r, ↓ops_nil, ↓ops_cons, ↓eval_tmp, ↓eval_nil, ↓put_some, ↓op_move, ↓op_assign, ↓td_d, ↓td_nl, ↓ret_2, List.getD_cons_zero, List.getD_cons_succ, List.set_cons_zero, List.set_cons_succ, List.map_nil, Nat.reduceAdd, Nat.reduceSub, Nat.reduceMul, evK_go, reduceIte, decide_false, Bool.not_false, Nat.reduceEqDiff, Nat.reduceLT]
  have ok := chk_ok hc
  rw [show cutR n l = cutL n.toNat (natL l) from if_pos hc, lnD_nat ok.rng, hc]
  have hcr := ok.cr
  have h8 := ok.hi
  have e0 := ok.n0
  clear ok hc hpre
  generalize n.toNat = m at *
  subst e0
  generalize natL l = L at *
  have hsg := symL_good hcr.2.2
  have hSl := outS_len m (symL L)
  have hSt := outS_lt' (n := m) (by omega) hsg
  have hSn : ∀ i j, j ∈ pts ((outS m (symL L)).getD i default) → j < m := fun i j hj => (hsg _ ((mem_next (by omega) hsg).1 hj)).2
  have hw : 2 ^ m - 1 < 2 ^ m := by have := Nat.one_le_two_pow (n := m); omega
  have hw64 : 2 ^ m - 1 < 2 ^ 64 := Nat.lt_of_lt_of_le hw (Nat.pow_le_pow_right (by omega) (by omega))
  have hcb : ∀ i, cutB m L i = (pts ((outS m (symL L)).getD i default)).any fun j => !(reach (outS m (symL L)) (dif (2 ^ m - 1) (2 ^ i)) (low ((outS m (symL L)).getD i default))).testBit j := fun _ => rfl
  simp (implicitDefEqProofs := false) (dsimp := false) only [beside_callD, hcr, ↓aw_seq, ↓aw_block, ↓aw_skip, ↓aw_loop, ↓aw_reg, ↓Qseq_n, ↓ops_nil, ↓ops_cons, ↓eval_tmp, ↓eval_int, ↓eval_nil, ↓eval_func, ↓put_some, ↓put_none, ↓op_move, ↓op_assign, ↓op_call, ↓op_alloc, ↓op_store, isD_d, ↓fnK_f, ↓call_H, ↓callK_H, ↓allT_nil, ↓allT_cons, ↓td_d, ↓addBox_mk, ↓setBox_mk, ↓st_bx, ↓vcells_l, ↓vcells_nl, ↓one_l, ↓vone_d, constV_n, ↓st_p, ↓ty84, ↓zb84, List.getD_cons_zero, List.getD_cons_succ, List.set_cons_zero, List.set_cons_succ, List.nil_append, List.append_nil, List.length_cons, List.length_nil, List.all_cons, List.all_nil, Bool.true_and, Bool.and_self, Bool.true_or, Nat.reduceAdd, Nat.reduceSub, Nat.reduceMul, Nat.zero_add, evK_go, reduceIte, decide_true, Bool.not_true, Nat.reduceEqDiff, Nat.reduceLT, and_self, true_and, Int.zero_add]
  (repeat refine OrH.l ?_)
  generalize outS m (symL L) = S at *
  refine loopW (fun k : Nat => { tm := slots 43 [(0, .d (I .i64 (m : Int))), (7, .p 0 0), (8, .o 0 0 (cutK m L k).length), (21, .d (I .i64 (m : Int))), (22, .d (I .i64 k))], bx := [.d (.l (S.map U))], rw := [some ⟨1, (cutK m L k).map nD⟩] })
    (fun k => k ≤ m) (fun k => m - k) 0 (by simp) ?_ ?_
  · refine Wkn.of [0] [none] ?_
    simp (implicitDefEqProofs := false) (dsimp := false) only [cutK, List.range_zero, List.filter_nil, ↓row_xs, ↓vcells_l, List.getD_cons_zero, List.set_cons_zero, List.set_cons_succ, List.map_nil, List.length_cons, List.length_nil, Bool.and_self, Nat.reduceAdd, Nat.reduceSub, Nat.reduceMul, Nat.zero_add, List.replicate, evK_go, reduceIte, Nat.reduceEqDiff, Nat.reduceLT, and_self, Int.zero_add, List.foldl_cons, List.foldl_nil, Int.cast_ofNat_Int, slots, wkL_nil, wkL_cons, wkB_nil, wkB_cons, wkR_nil, wkR_new, wkV_j, wkV_d, nlK_nl, wkV_o, wkV_p, frz_d, oK_zn, pK_z, reduceCtorEq]
  · intro k hk
    simp (implicitDefEqProofs := false) (dsimp := false) only [slots, ↓aw_cond, ↓aw_seq, ↓aw_reg, ↓Qseq_n, ↓ops_nil, ↓ops_cons, ↓eval_tmp, ↓put_some, ↓bK_b, ↓binE_i, ↓bi_lss, ↓op_bin, List.getD_cons_zero, List.getD_cons_succ, List.set_cons_zero, List.set_cons_succ, Nat.reduceAdd, Nat.reduceSub, Nat.reduceMul, List.replicate, evK_go, reduceIte, Nat.reduceEqDiff, Nat.reduceLT, List.foldl_cons, List.foldl_nil, Int.ofNat_lt]
    refine cdK_dec (fun h => ?_) (fun h => ?_)
    · have hkS : k < S.length := by omega
      have hlt := hSt _ (getD_mem hkS)
      have hk64 : k < 64 := by omega
      have hm64 : m < 64 := by omega
      have hdw := dif_lt (n := 2 ^ k) hw
      have hpre : (∀ j ∈ pts (S.getD k default), j < S.length) ∧ S.length ≤ 64 ∧ dif (2 ^ m - 1) (2 ^ k) < 2 ^ S.length ∧ ∀ x ∈ S, x < 2 ^ 64 := ⟨fun j hj => by rw [hSl]; exact hSn k j hj, by omega, by rw [hSl]; exact hdw, hSt⟩
      have hcl := cutK_len m L k
      simp (implicitDefEqProofs := false) (dsimp := false) only [h, hm64, hk64, hw64, hkS, hlt, below_call, without_call, list_callD, cut3_call, hpre, ← hcb, ↓atK_H, ↓atH_map, ↓nthK_H, ↓nthH_zero, ↓aw_cond, ↓aw_seq, ↓aw_block, ↓aw_skip, ↓aw_reg, ↓Qseq_n, ↓ops_nil, ↓ops_cons, ↓eval_tmp, ↓eval_func, ↓put_some, ↓put_none, ↓bK_b, ↓iK_i, ↓capsK_nil, ↓capsK_cons, ↓ldK_q, ↓ldK_p, ↓iaK_l, ↓op_move, ↓op_assign, ↓op_load, ↓op_ia, ↓op_func, ↓op_call, ↓op_alloc, ↓op_store, isD_d, isD_fp, ↓fnK_f, ↓call_H, ↓callK_H, ↓allT_nil, ↓allT_cons, ↓td_d, ↓boxK_d, ↓td_fp, ↓bq_nil, ↓bq_cons, ↓addBox_mk, ↓setBox_mk, ↓st_bx, ↓cells_c, ↓cells_l, ↓vcells_c, ↓vcells_l, ↓vcells_nl, ↓one_i, ↓one_l, ↓vone_d, constV_i, constV_n, ↓st_p, ↓hd_cons, ↓ty28, ↓zb28, ↓ty84, ↓sl84, ↓ty87, ↓zb87, List.getD_cons_zero, List.getD_cons_succ, List.set_cons_zero, List.set_cons_succ, List.cons_append, List.nil_append, List.append_nil, List.map_cons, List.map_nil, List.length_cons, List.length_nil, List.all_cons, List.all_nil, Bool.and_true, Bool.true_and, Bool.and_self, Bool.and_false, Bool.true_or, Bool.false_or, Nat.reduceAdd, Nat.reduceSub, Nat.reduceMul, Nat.zero_add, Int.toNat_natCast, evK_go, reduceIte, decide_true, Nat.reduceEqDiff, Nat.reduceLT, and_self, true_and, and_true, Int.zero_add, Int.natCast_nonneg]
      (repeat refine OrH.l ?_)
      refine ⟨⟨hpre.1, hSt⟩, rfl, cdK_split (fun hb => ?_) (fun hb => ?_)⟩
      · simp (implicitDefEqProofs := false) (dsimp := false) only [↓optK_some, ↓rwK_mk_, ↓aw_reg, ↓Qseq_n, ↓Qblk_n, ↓ops_nil, ↓ops_cons, ↓eval_tmp, ↓eval_int, ↓put_some, ↓dK_d, ↓binE_i, ↓bi_add, ↓in_i64, ↓op_move, ↓op_assign, ↓op_bin, ↓op_append, ↓allD_nil, ↓allD_cons, ↓app_mk, ↓row_sz, ↓row_xs, kill_d, kill_j, kill_p, kill_fp, kill_o, ↓cells_c, ↓one_i, ↓ap_, ↓ap_o, ↓src_l, ↓bs_, ↓op_bs, ↓bsL_f, ↓stored_mk, ↓sl_nil, ↓sl_cons, ↓sT_move, ↓sT_assign, ↓sT_bs, ↓sT_call, ↓vsz_int, ↓inO_1, ↓fm_nil, ↓fm_cons, ↓ty3, ↓zb3, ↓sl28, List.getD_cons_zero, List.getD_cons_succ, List.set_cons_zero, List.set_cons_succ, List.map_cons, List.map_nil, List.length_cons, List.length_nil, List.length_map, List.all_cons, List.all_nil, Bool.true_and, Bool.and_self, Bool.or_false, Nat.reduceAdd, Nat.reduceSub, Nat.reduceMul, Nat.zero_add, evK_go, reduceIte, Nat.reduceEqDiff, Nat.reduceLT, and_self, true_and, Int.zero_add, List.drop_zero]
        refine ⟨by decide, ⟨fun _ => trivial, by omega, by omega⟩, by omega, k + 1, by omega, by omega, ?_⟩
        refine Wkn.of [0] [some 0] ?_
        simp (implicitDefEqProofs := false) (dsimp := false) only [cutK_succ, hb, if_true, List.map_append, List.length_append, nD, ↓vcells_l, List.getD_cons_zero, List.set_cons_zero, List.set_cons_succ, List.map_cons, List.map_nil, List.length_cons, List.length_nil, Bool.and_self, Nat.reduceAdd, Nat.reduceSub, Nat.reduceMul, Nat.zero_add, List.replicate, evK_go, reduceIte, Nat.reduceEqDiff, Nat.reduceLT, and_self, Int.zero_add, List.foldl_cons, List.foldl_nil, Int.cast_ofNat_Int, Int.natCast_add, slots, wkL_nil, wkL_cons, wkB_nil, wkB_cons, wkR_nil, wkR_some, wkV_j, wkV_d, wkV_o, wkV_p, frz_d, oK_zs, pK_z, reduceCtorEq]
      · simp (implicitDefEqProofs := false) (dsimp := false) only [↓aw_skip, ↓aw_reg, ↓Qseq_n, ↓Qblk_n, ↓ops_nil, ↓ops_cons, ↓eval_tmp, ↓eval_int, ↓put_some, ↓binE_i, ↓bi_add, ↓in_i64, ↓op_move, ↓op_bin, List.getD_cons_zero, List.getD_cons_succ, List.set_cons_zero, List.set_cons_succ, Nat.reduceAdd, Nat.reduceSub, Nat.reduceMul, evK_go, reduceIte, Nat.reduceEqDiff, Nat.reduceLT]
        refine ⟨by omega, k + 1, by omega, by omega, ?_⟩
        refine Wkn.of [0] [some 0] ?_
        simp (implicitDefEqProofs := false) (dsimp := false) only [cutK_succ, hb, Bool.false_eq_true, if_false, List.append_nil, ↓vcells_l, List.getD_cons_zero, List.set_cons_zero, List.set_cons_succ, List.append_nil, List.length_cons, List.length_nil, Bool.and_self, Nat.reduceAdd, Nat.reduceSub, Nat.reduceMul, Nat.zero_add, List.replicate, evK_go, reduceIte, Nat.reduceEqDiff, Nat.reduceLT, and_self, Int.zero_add, List.foldl_cons, List.foldl_nil, Int.cast_ofNat_Int, Int.natCast_add, slots, wkL_nil, wkL_cons, wkB_nil, wkB_cons, wkR_nil, wkR_some, wkV_j, wkV_d, wkV_o, wkV_p, frz_d, oK_zs, pK_z, reduceCtorEq]
    · obtain rfl : k = m := by omega
      simp (implicitDefEqProofs := false) (dsimp := false) only [eval_nilI, ↓optK_some, ↓rwK_mk_, ↓aw_seq, ↓aw_exit, ↓aw_ret, ↓aw_reg, ↓Qseq_n, ↓Qseq_x, ↓Qblk_x, ↓Qret_r, ↓ops_nil, ↓ops_cons, ↓eval_tmp, ↓put_some, ↓op_move, ↓op_assign, ↓td_d, ↓td_o, ↓ret_2, ↓row_xs, ↓take_map, List.getD_cons_zero, List.getD_cons_succ, List.set_cons_zero, List.set_cons_succ, Nat.reduceAdd, Nat.reduceSub, Nat.reduceMul, evK_go, reduceIte, decide_false, Nat.reduceEqDiff, Nat.reduceLT, Nat.lt_irrefl, List.drop_zero]
      rfl
theorem points_call (n : Int) (l : List (Int × Int)) (pure : Bool) (σ : St) (dst : Option Tmp) (K : St → Prop) : CallH Try.prog 56 [I .i64 n, .l (l.map lnD)] pure σ dst (.mk : Hid K) = OrH ((l.length < 2 ^ 62) ∧ (pure || D.flat (.t [.l ((cutR n l).map nD), erD (chk n l)])) = true ∧ evK (σ.put dst (.d (.t [.l ((cutR n l).map nD), erD (chk n l)]))) (.mk : Hid K)) (.mk : Hid (CallH Try.prog 56 [I .i64 n, .l (l.map lnD)] pure σ dst (.mk : Hid K))) := CallH.eq (points_spec n l) pure σ dst K
theorem points_callQ (n : Int) (l : List (Int × Int)) (pure : Bool) (C : V → Prop) : CallQ Try.prog 56 [I .i64 n, .l (l.map lnD)] pure (.mk : Hid C) = OrH ((l.length < 2 ^ 62) ∧ (pure || D.flat (.t [.l ((cutR n l).map nD), erD (chk n l)])) = true ∧ evK (V.d (.t [.l ((cutR n l).map nD), erD (chk n l)])) (.mk : Hid C)) (.mk : Hid (CallQ Try.prog 56 [I .i64 n, .l (l.map lnD)] pure (.mk : Hid C))) := CallQ.eq (points_spec n l) pure C
end Go.Proofs

namespace Go.Proofs
open Go.Aw
set_option linter.unusedSimpArgs false
set_option maxRecDepth 10000
theorem Avo.lines {l l' : List (Nat × Nat)} (h : ∀ p ∈ l, p ∈ l') {S : Nat → Prop} {a b : Nat} (k : Avo l S a b) : Avo l' S a b := by
  induction k with
  | refl => exact .refl
  | step _ h1 h2 ih => exact .step ih (h _ h1) h2
theorem Ov.congr {l l' : List (Nat × Nat)} (h : ∀ p, p ∈ l ↔ p ∈ l') {f i k : Nat} (o : Ov l f i k) : Ov l' f i k := by
  refine ⟨o.1.mono fun p hp => (h p).1 hp, o.2.imp id (fun o => o.imp id fun o ha => o (ha.lines fun p hp => (h p).2 hp))⟩
/-- Lines, each and turned. -/
def bothK (l : List (Int × Int)) (i : Nat) : List (Int × Int) := (l.take i).flatMap fun p => [p, flipI p]
theorem bothK_succ {l : List (Int × Int)} {i : Nat} (h : i < l.length) : bothK l (i + 1) = bothK l i ++ [l.getD i default] ++ [flipI (l.getD i default)] := by
  unfold bothK
  rw [take_succ_getD h, List.flatMap_append]
  simp
theorem bothK_len (l : List (Int × Int)) (i : Nat) (h : i ≤ l.length) : (bothK l i).length = 2 * i := by
  induction i with
  | zero => simp [bothK]
  | succ i ih =>
    rw [bothK_succ (by omega)]
    simp [ih (by omega)]; omega
theorem bothK_sym (l : List (Int × Int)) (i : Nat) (p : Int × Int) : p ∈ bothK l i ↔ flipI p ∈ bothK l i := by
  have key : ∀ p : Int × Int, p ∈ bothK l i → flipI p ∈ bothK l i := by
    intro p hp
    obtain ⟨q, hq, h⟩ := List.mem_flatMap.1 hp
    refine List.mem_flatMap.2 ⟨q, hq, ?_⟩
    simp (implicitDefEqProofs := false) (dsimp := false) only [List.mem_cons, List.not_mem_nil, or_false] at h ⊢
    rcases h with rfl | rfl
    · exact .inr rfl
    · exact .inl rfl
  exact ⟨key p, fun h => key (flipI p) h⟩
theorem bothK_nat (l : List (Int × Int)) (i : Nat) (p : Nat × Nat) : p ∈ natL (bothK l i) ↔ p ∈ symL (natL (bothK l i)) := by
  refine ⟨fun h => List.mem_append_left _ h, fun h => ?_⟩
  obtain ⟨a, b⟩ := p
  rcases symL_mem.1 h with h | h
  · exact h
  · obtain ⟨q, hq, e⟩ := List.mem_map.1 h
    refine List.mem_map.2 ⟨flipI q, (bothK_sym l i q).1 hq, ?_⟩
    have e1 := congrArg Prod.fst e
    have e2 := congrArg Prod.snd e
    show (q.2.toNat, q.1.toNat) = (a, b)
    simp (implicitDefEqProofs := false) (dsimp := false) only [natP] at e1 e2
    rw [e1, e2]
def overK (M : List (List Int)) (k j : Nat) : Bool := (List.range j).any fun i => !decide (i = k) && decide ((k : Int) ∈ M.getD i default)
theorem overK_succ (M : List (List Int)) (k j : Nat) : overK M k (j + 1) = (overK M k j || (!decide (j = k) && decide ((k : Int) ∈ M.getD j default))) := by
  unfold overK
  rw [List.range_succ, List.any_append]
  simp
theorem to1_spec  : FnD Try.prog 53 [I .i64 2, .l [], I .i64 1] (.t [.l [.l [], .l [I .i64 1]], erD 0]) := by
  have h := dof_spec 2 [] 1 (by decide)
  rw [show domOf 2 [] 1 = [[], [1]] by decide +kernel, show domE 2 [] 1 = 0 by decide +kernel] at h
  exact h
theorem to1_call  (pure : Bool) (σ : St) (dst : Option Tmp) (K : St → Prop) : CallH Try.prog 53 [I .i64 2, .l [], I .i64 1] pure σ dst (.mk : Hid K) = OrH ((pure || D.flat (.t [.l [.l [], .l [I .i64 1]], erD 0])) = true ∧ evK (σ.put dst (.d (.t [.l [.l [], .l [I .i64 1]], erD 0]))) (.mk : Hid K)) (.mk : Hid (CallH Try.prog 53 [I .i64 2, .l [], I .i64 1] pure σ dst (.mk : Hid K))) := CallH.eq0 (to1_spec ) pure σ dst K
theorem to1_callQ  (pure : Bool) (C : V → Prop) : CallQ Try.prog 53 [I .i64 2, .l [], I .i64 1] pure (.mk : Hid C) = OrH ((pure || D.flat (.t [.l [.l [], .l [I .i64 1]], erD 0])) = true ∧ evK (V.d (.t [.l [.l [], .l [I .i64 1]], erD 0])) (.mk : Hid C)) (.mk : Hid (CallQ Try.prog 53 [I .i64 2, .l [], I .i64 1] pure (.mk : Hid C))) := CallQ.eq0 (to1_spec ) pure C
theorem to2_spec  : FnD Try.prog 44 [.l [I .i64 1], .l [I .i64 1]] (Bo true) := by
  have h := ints_spec [1] [1] (by decide)
  exact h
theorem to2_call  (pure : Bool) (σ : St) (dst : Option Tmp) (K : St → Prop) : CallH Try.prog 44 [.l [I .i64 1], .l [I .i64 1]] pure σ dst (.mk : Hid K) = OrH ((pure || D.flat (Bo true)) = true ∧ evK (σ.put dst (.d (Bo true))) (.mk : Hid K)) (.mk : Hid (CallH Try.prog 44 [.l [I .i64 1], .l [I .i64 1]] pure σ dst (.mk : Hid K))) := CallH.eq0 (to2_spec ) pure σ dst K
theorem to2_callQ  (pure : Bool) (C : V → Prop) : CallQ Try.prog 44 [.l [I .i64 1], .l [I .i64 1]] pure (.mk : Hid C) = OrH ((pure || D.flat (Bo true)) = true ∧ evK (V.d (Bo true)) (.mk : Hid C)) (.mk : Hid (CallQ Try.prog 44 [.l [I .i64 1], .l [I .i64 1]] pure (.mk : Hid C))) := CallQ.eq0 (to2_spec ) pure C
theorem atH_one (a b : D) (k : D → Prop) : atH [a, b] 1 (.mk : Hid k) = evK b (.mk : Hid k) := by
  simp (implicitDefEqProofs := false) (dsimp := false) only [atH, atK, evK]
  refine propext ⟨fun ⟨x, h1, h2⟩ => ?_, fun h => ⟨b, rfl, h⟩⟩
  cases h1; exact h2
theorem lTopOver_spec (n : Int) (l : List (Int × Int)) (f : Int) (_hn : -9223372036854775808 ≤ n ∧ n ≤ 9223372036854775807) (hpre : l.length < 2 ^ 43) (_hf : -9223372036854775808 ≤ f ∧ f ≤ 9223372036854775807) : FnD Try.prog 18 [I .i64 n, .l (l.map lnD), I .i64 f] (Bo true) := by
  have hl62 : l.length < 2 ^ 62 := by omega
  refine FnD.go Try.func18 rfl rfl Try.results18 Try.ntmps18 ?_
  simp (implicitDefEqProofs := false) (dsimp := false) only [↓aw_seq, ↓aw_block, ↓aw_loop, ↓aw_reg, ↓Qseq_n, ↓ops_nil, ↓ops_cons, ↓eval_int, ↓eval_bool, ↓eval_nil, ↓put_some, ↓op_assign, List.set_cons_zero, List.set_cons_succ, List.cons_append, List.nil_append, List.map_cons, List.map_nil, List.length_cons, List.length_nil, Nat.reduceAdd, Nat.reduceSub, Nat.reduceMul, Nat.zero_add, List.replicate, evK_go, reduceIte, Nat.reduceEqDiff, Nat.reduceLT, Int.zero_add]
  refine loopX (fun i : Nat => { tm := slots 136 [(0, .d (I .i64 n)), (1, .d (.l (l.map lnD))), (2, .d (I .i64 f)), (7, .o 0 0 (bothK l i).length), (8, .d (I .i64 i))], bx := [], rw := [some ⟨2, (bothK l i).map lnD⟩] })
    (fun i => i ≤ l.length ∧ i ≤ 12) (fun i => 12 - i) 0 (fun B : List (Int × Int) => { tm := slots 136 [(0, .d (I .i64 n)), (2, .d (I .i64 f)), (7, .d (.l (B.map lnD)))], bx := [], rw := [] })
    (fun B => B.length ≤ 24 ∧ ∀ p, p ∈ natL B ↔ p ∈ symL (natL B)) 0 (by simp) ?_ ?_ ?_
  · refine Wkn.of [] [none] ?_
    simp (implicitDefEqProofs := false) (dsimp := false) only [bothK, List.flatMap_nil, ↓row_xs, List.set_cons_zero, List.set_cons_succ, List.map_nil, List.length_nil, Bool.and_self, Nat.reduceAdd, Nat.reduceSub, Nat.reduceMul, List.replicate, evK_go, reduceIte, Nat.reduceEqDiff, Nat.reduceLT, and_self, List.take_zero, List.foldl_cons, List.foldl_nil, Int.cast_ofNat_Int, slots, wkL_nil, wkL_cons, wkB_nil, wkR_nil, wkR_new, wkV_j, wkV_d, nlK_nl, wkV_o, frz_d, oK_zn, reduceCtorEq]
  · rintro i ⟨hi, hi12⟩
    have hbl := bothK_len l i hi
    have e1 : List.take (bothK l i).length (List.map lnD (bothK l i)) = List.map lnD (bothK l i) := List.take_of_length_le (by simp)
    simp (implicitDefEqProofs := false) (dsimp := false) only [slots, ↓gdK_t, ↓gval_mk, ↓gvL_zero, ↓gvL_succ, ↓aw_seq, ↓aw_reg, ↓ops_cons, ↓ops_guard, ↓eval_tmp, ↓put_some, ↓lenK_l, ↓binE_i, ↓bi_lss, ↓op_move, ↓op_bin, ↓op_len, ↓st_tm, ↓sl22, List.getD_cons_zero, List.getD_cons_succ, List.set_cons_zero, List.set_cons_succ, List.length_map, Nat.reduceAdd, Nat.reduceSub, Nat.reduceMul, List.replicate, evK_go, reduceIte, Nat.reduceEqDiff, Nat.reduceLT, List.foldl_cons, List.foldl_nil, Int.ofNat_lt]
    refine cdK_dec (fun h => ?_) (fun h => ?_)
    · have hd : decide (i < l.length) = true := decide_eq_true h
      simp (implicitDefEqProofs := false) (dsimp := false) only [hd, ↓cdK_true, ↓gdK_t, ↓gval_mk, ↓gvL_zero, ↓gvL_succ, ↓aw_cond, ↓Qseq_n, ↓ops_nil, ↓ops_cons, ↓ops_guard, ↓eval_tmp, ↓eval_int, ↓put_some, ↓bK_b, ↓binE_i, ↓bi_lss, ↓op_move, ↓op_pick, ↓op_bin, ↓st_tm, List.getD_cons_zero, List.getD_cons_succ, List.set_cons_zero, List.set_cons_succ, Nat.reduceAdd, Nat.reduceSub, Nat.reduceMul, evK_go, reduceIte, Nat.reduceEqDiff, Nat.reduceLT]
      refine cdK_dec (fun h12 => ?_) (fun h12 => ?_)
      · have hd2 : decide ((i : Int) < 12) = true := by rw [decide_eq_true_eq]; omega
        have e0 := bothK_succ h
        simp (implicitDefEqProofs := false) (dsimp := false) only [hd2, h, lnD, ↓optK_some, ↓rwK_mk_, ↓atK_H, ↓atH_map, ↓aw_seq, ↓aw_block, ↓aw_skip, ↓aw_reg, ↓aw_draw, ↓Qseq_n, ↓Qblk_n, ↓ops_nil, ↓ops_cons, ↓eval_tmp, ↓eval_int, ↓put_some, ↓iK_i, ↓dK_d, ↓ev_move, ↓ev_load, ↓ev_fa, ↓ev_ia, ↓ev_build, ↓binE_i, ↓bi_add, ↓in_i64, ↓ldK_q, ↓faK_q, ↓iaK_l, ↓op_move, ↓op_assign, ↓op_load, ↓op_bin, ↓op_ia, ↓op_append, ↓allD_nil, ↓allD_cons, ↓draw_H, ↓h_cons, ↓ldH_t, ↓ldH_n, ↓q_bs, ↓q_move, ↓q_load, ↓q_fa, ↓q_ia, ↓q_build, ↓il_move, ↓il_load, ↓il_fa, ↓il_ia, ↓il_build, ↓il_bs, ↓il_append, ↓app_mk, ↓row_sz, ↓row_xs, kill_d, kill_j, kill_o, ↓cells_c, ↓cells_s, ↓one_i, ↓ap_, ↓ap_o, ↓src_l, ↓bs_, ↓op_bs, ↓bsL_f, ↓stored_mk, ↓sl_nil, ↓sl_cons, ↓sT_move, ↓sT_assign, ↓sT_load, ↓sT_ia, ↓sT_bs, ↓sT_call, ↓vsz_agg, ↓inO_1, ↓fm_nil, ↓fm_cons, ↓hd_cons, ↓ty3, ↓sl22, ↓ty35, ↓zb35, ↓fd35_0, ↓fd35_1, ↓bd35, List.getD_cons_zero, List.getD_cons_succ, List.set_cons_zero, List.set_cons_succ, List.cons_append, List.nil_append, List.map_cons, List.map_nil, List.length_cons, List.length_nil, List.length_map, List.all_cons, List.all_nil, Bool.true_and, Bool.and_self, Bool.or_false, Nat.reduceAdd, Nat.reduceSub, Nat.reduceMul, Nat.zero_add, Int.toNat_natCast, evK_go, reduceIte, Nat.reduceEqDiff, Nat.reduceLT, and_self, true_and, Int.zero_add, List.drop_zero, List.take_succ_cons, List.drop_succ_cons, List.take_nil, Int.natCast_nonneg]
        refine ⟨by decide, ⟨rfl, by decide⟩, rfl, ⟨fun _ => trivial, by omega, by omega⟩, OrH.l ⟨DrawH.of follows_mixed (by kernel_rfl), ⟨rfl, by decide⟩, rfl, ⟨fun _ => trivial, by simp, by omega, by omega⟩, by omega, i + 1, ⟨by omega, by omega⟩, by omega, ?_⟩⟩
        refine Wkn.of [] [some 0] ?_
        simp (implicitDefEqProofs := false) (dsimp := false) only [e0, List.map_append, List.length_append, lnD, flipI, List.getD_cons_zero, List.set_cons_zero, List.set_cons_succ, List.map_cons, List.map_nil, List.length_cons, List.length_nil, Bool.and_self, Nat.reduceAdd, Nat.reduceSub, Nat.reduceMul, Nat.zero_add, List.replicate, evK_go, reduceIte, Nat.reduceEqDiff, Nat.reduceLT, and_self, Int.zero_add, List.foldl_cons, List.foldl_nil, Int.cast_ofNat_Int, Int.natCast_add, slots, wkL_nil, wkL_cons, wkB_nil, wkR_nil, wkR_some, wkV_j, wkV_d, wkV_o, frz_d, oK_zs, reduceCtorEq]
      · have hd2 : decide ((i : Int) < 12) = false := decide_eq_false h12
        simp (implicitDefEqProofs := false) (dsimp := false) only [hd2, QX_x, ↓aw_exit, ↓Qseq_x, Nat.reduceAdd, Nat.reduceSub, Nat.reduceMul, evK_go, reduceIte, Nat.reduceEqDiff, Nat.reduceLT]
        refine ⟨bothK l i, ⟨by omega, bothK_nat l i⟩, ?_⟩
        refine Wkn.of [] [] ?_; simp (implicitDefEqProofs := false) (dsimp := false) only [e1, ↓optK_some, ↓row_xs, List.getD_cons_zero, List.set_cons_zero, List.set_cons_succ, Bool.and_self, Nat.reduceAdd, Nat.reduceSub, Nat.reduceMul, List.replicate, evK_go, reduceIte, Nat.reduceEqDiff, Nat.reduceLT, and_self, not_false_eq_true, List.drop_zero, List.foldl_cons, List.foldl_nil, slots, wkL_nil, wkL_cons, wkB_nil, wkR_nil, wkV_j, wkV_d, frz_d, frz_o, dl_eq, reduceCtorEq, List.not_mem_nil]
    · have hd : decide (i < l.length) = false := decide_eq_false h
      simp (implicitDefEqProofs := false) (dsimp := false) only [hd, QX_x, ↓cdK_false, ↓gdK_t, ↓gval_mk, ↓gvL_zero, ↓gvL_succ, ↓aw_cond, ↓aw_exit, ↓Qseq_n, ↓Qseq_x, ↓ops_nil, ↓ops_cons, ↓ops_guard, ↓eval_tmp, ↓eval_bool, ↓put_some, ↓bK_b, ↓op_pick, ↓st_tm, List.getD_cons_zero, List.getD_cons_succ, List.set_cons_zero, List.set_cons_succ, Nat.reduceAdd, Nat.reduceSub, Nat.reduceMul, evK_go, reduceIte, Nat.reduceEqDiff, Nat.reduceLT]
      refine ⟨bothK l i, ⟨by omega, bothK_nat l i⟩, ?_⟩
      refine Wkn.of [] [] ?_; simp (implicitDefEqProofs := false) (dsimp := false) only [e1, ↓optK_some, ↓row_xs, List.getD_cons_zero, List.set_cons_zero, List.set_cons_succ, Bool.and_self, Nat.reduceAdd, Nat.reduceSub, Nat.reduceMul, List.replicate, evK_go, reduceIte, Nat.reduceEqDiff, Nat.reduceLT, and_self, not_false_eq_true, List.drop_zero, List.foldl_cons, List.foldl_nil, slots, wkL_nil, wkL_cons, wkB_nil, wkR_nil, wkV_j, wkV_d, frz_d, frz_o, dl_eq, reduceCtorEq, List.not_mem_nil]
  · rintro B ⟨hB24, hsym⟩
    have hB62 : B.length < 2 ^ 62 := by omega
    simp (implicitDefEqProofs := false) (dsimp := false) only [slots, dof_call, hB62, to1_call, to2_call, ↓atH_one, eval_nilI, ↓er_neq, ↓cdK_false, ↓cdK_not, ↓gdK_f, ↓gval_mk, ↓gvL_zero, ↓gvL_succ, ↓atK_H, ↓nthK_H, ↓nthH_zero, ↓nthH_succ, ↓aw_cond, ↓aw_seq, ↓aw_skip, ↓aw_reg, ↓Qseq_n, ↓Qseq_x, ↓Qblk_x, ↓ops_nil, ↓ops_cons, ↓ops_guard, ↓eval_tmp, ↓eval_int, ↓eval_nil, ↓eval_func, ↓put_some, ↓bK_b, ↓iK_i, ↓dK_d, ↓lenK_l, ↓tK_t, ↓binE_i, ↓bi_neq, ↓ldK_q, ↓iaK_l, ↓op_move, ↓op_assign, ↓op_pick, ↓op_load, ↓op_bin, ↓op_not, ↓op_ia, ↓op_extract, ↓op_len, ↓op_call, isD_d, isD_nl, ↓fnK_f, ↓call_H, ↓callK_H, ↓allT_nil, ↓allT_cons, ↓allD_nil, ↓allD_cons, ↓td_d, ↓td_nl, ↓st_tm, ↓cells_c, ↓cells_l, ↓one_i, ↓bs_, ↓op_bs, ↓bsL_f, ↓stored_mk, ↓sl_nil, ↓sl_cons, ↓sT_move, ↓sT_pick, ↓sT_load, ↓sT_bin, ↓sT_un, ↓sT_ia, ↓sT_bs, ↓sT_call, ↓vsz_int, ↓inO_1, ↓fm_nil, ↓fm_cons, ↓hd_cons, ↓ty3, ↓zb3, ↓ty28, ↓sl28, ↓sl44, List.getD_cons_zero, List.getD_cons_succ, List.set_cons_zero, List.set_cons_succ, List.append_nil, List.map_cons, List.map_nil, List.length_cons, List.length_nil, List.all_cons, List.all_nil, Bool.true_and, Bool.and_self, Bool.true_or, Bool.or_false, Nat.reduceAdd, Nat.reduceSub, Nat.reduceMul, Nat.zero_add, Int.toNat_one, List.replicate, evK_go, reduceIte, decide_true, Bool.not_true, Nat.reduceEqDiff, Nat.reduceLT, and_self, true_and, Int.zero_add, List.foldl_cons, List.foldl_nil, Int.cast_ofNat_Int]
    (repeat refine OrH.l ?_)
    refine ⟨by decide, by decide, ?_⟩
    (repeat refine OrH.l ?_)
    refine cdK_dec (fun hc => ?_) (fun hc => ?_)
    rotate_left
    · have e1 : domOf n B f = [] := if_neg hc
      simp (implicitDefEqProofs := false) (dsimp := false) only [hc, e1, ↓aw_seq, ↓aw_ret, ↓aw_reg, ↓Qseq_n, ↓Qseq_r, ↓Qret_r, ↓ops_nil, ↓ops_cons, ↓eval_tmp, ↓eval_int, ↓put_some, ↓lenK_l, ↓binE_i, ↓bi_eql, ↓op_move, ↓op_assign, ↓op_bin, ↓op_len, ↓td_d, ↓ret_1, ↓sl44, List.getD_cons_zero, List.getD_cons_succ, List.set_cons_zero, List.set_cons_succ, List.map_nil, List.length_nil, Nat.reduceAdd, Nat.reduceSub, Nat.reduceMul, evK_go, reduceIte, decide_true, decide_false, Bool.not_false, Nat.reduceEqDiff, Nat.reduceLT, Int.cast_ofNat_Int]
    obtain ⟨hc0, dw⟩ := domW hc
    have ok := chk_ok hc0
    have hcut : ∀ i k : Nat, k < n.toNat → (k : Int) ≠ f → i ≠ k → (k : Int) ∈ (domOf n B f).getD i default → (k : Int) ∈ (cutR n B).map Int.ofNat := fun i k hk hkf hik hm => by
      have h1 := (dw.iff i k).1 hm
      have hff := dw.f0
      have h2 := cut_of (by have := ok.hi; omega) ok.good (fun a ha => ok.ne _ ha rfl) dw.fm hk (by omega) hik (Ov.congr hsym h1)
      rw [show cutR n B = cutL n.toNat (natL B) from if_pos hc0]
      exact List.mem_map.2 ⟨k, h2, rfl⟩
    have hcl : (cutR n B).length ≤ 8 := by
      rw [show cutR n B = cutL n.toNat (natL B) from if_pos hc0]
      have := cutK_len n.toNat (natL B) n.toNat
      have := ok.hi
      unfold cutL
      unfold cutK at *
      omega
    have hC62 : ((cutR n B).map Int.ofNat).length < 2 ^ 62 := by rw [List.length_map]; omega
    generalize domOf n B f = M at *
    obtain ⟨C, hC⟩ : ∃ C, C = (cutR n B).map Int.ofNat := ⟨_, rfl⟩
    rw [← hC] at hC62 hcut
    generalize n.toNat = m at *
    generalize f.toNat = x at *
    have e0 := dw.n0
    have hlo := dw.lo
    have h8 := dw.hi
    have hML : ((M.length : Nat) : Int) = n := by rw [dw.len, e0]
    have hMm : M.length = m := dw.len
    have hinf : inB f 0 (n - 1) = true := inB_iff.2 ⟨by have := dw.f0; omega, by have := dw.f0; have := dw.fm; omega⟩
    have hs62 : ∀ i : Nat, (M.getD i default).length < 2 ^ 62 := fun i => by have := dw.sz i; omega
    simp (implicitDefEqProofs := false) (dsimp := false) only [points_call, hB62, hc, hc0, nD_ints, ← hC, hML, in3_call, hinf, eval_nilI, ↓er_neq, ↓cdK_false, ↓gdK_f, ↓gval_mk, ↓gvL_zero, ↓gvL_succ, ↓nthK_H, ↓nthH_zero, ↓nthH_succ, ↓aw_cond, ↓aw_seq, ↓aw_block, ↓aw_skip, ↓aw_loop, ↓aw_reg, ↓Qseq_n, ↓ops_nil, ↓ops_cons, ↓ops_guard, ↓eval_tmp, ↓eval_int, ↓eval_func, ↓put_some, ↓bK_b, ↓lenK_l, ↓tK_t, ↓binE_i, ↓bi_sub, ↓bi_neq, ↓in_i64, ↓op_move, ↓op_assign, ↓op_pick, ↓op_bin, ↓op_not, ↓op_extract, ↓op_len, ↓op_call, isD_d, ↓fnK_f, ↓call_H, ↓callK_H, ↓allT_nil, ↓allT_cons, ↓td_d, ↓st_tm, ↓sl44, List.getD_cons_zero, List.getD_cons_succ, List.set_cons_zero, List.set_cons_succ, List.append_nil, List.length_map, List.all_cons, List.all_nil, Bool.true_and, Bool.and_self, Bool.true_or, Nat.reduceAdd, Nat.reduceSub, Nat.reduceMul, evK_go, reduceIte, decide_true, Bool.not_true, Nat.reduceEqDiff, Nat.reduceLT, and_self, true_and]
    (repeat refine OrH.l ?_)
    refine ⟨by omega, ?_⟩
    (repeat refine OrH.l ?_)
    refine loopW (fun k : Nat => { tm := slots 136 [(0, .d (I .i64 n)), (2, .d (I .i64 f)), (9, .d (.l (M.map liD))), (13, .d (.l (C.map (I .i64)))), (14, .d (I .i64 k))], bx := [], rw := [] })
      (fun k => k ≤ m) (fun k => m - k) 0 (by simp) ?_ ?_
    · refine Wkn.of [] [] ?_; simp (implicitDefEqProofs := false) (dsimp := false) only [List.set_cons_zero, List.set_cons_succ, Bool.and_self, Nat.reduceAdd, Nat.reduceSub, Nat.reduceMul, List.replicate, evK_go, reduceIte, Nat.reduceEqDiff, Nat.reduceLT, and_self, List.foldl_cons, List.foldl_nil, Int.cast_ofNat_Int, slots, wkL_nil, wkL_cons, wkB_nil, wkR_nil, wkV_j, wkV_d, frz_d, reduceCtorEq]
    · intro k hk
      simp (implicitDefEqProofs := false) (dsimp := false) only [slots, ↓aw_cond, ↓aw_seq, ↓aw_reg, ↓Qseq_n, ↓ops_nil, ↓ops_cons, ↓eval_tmp, ↓put_some, ↓bK_b, ↓binE_i, ↓bi_lss, ↓op_move, ↓op_bin, List.getD_cons_zero, List.getD_cons_succ, List.set_cons_zero, List.set_cons_succ, Nat.reduceAdd, Nat.reduceSub, Nat.reduceMul, List.replicate, evK_go, reduceIte, Nat.reduceEqDiff, Nat.reduceLT, List.foldl_cons, List.foldl_nil]
      refine cdK_dec (fun h1 => ?_) (fun h1 => ?_)
      · simp (implicitDefEqProofs := false) (dsimp := false) only [↓aw_seq, ↓aw_block, ↓aw_skip, ↓aw_loop, ↓aw_reg, ↓Qseq_n, ↓ops_nil, ↓ops_cons, ↓eval_int, ↓eval_bool, ↓put_some, ↓op_assign, List.set_cons_zero, List.set_cons_succ, Nat.reduceAdd, Nat.reduceSub, Nat.reduceMul, evK_go, reduceIte, Nat.reduceEqDiff, Nat.reduceLT]
        refine loopW (fun j : Nat => { tm := slots 136 [(0, .d (I .i64 n)), (2, .d (I .i64 f)), (9, .d (.l (M.map liD))), (13, .d (.l (C.map (I .i64)))), (14, .d (I .i64 k)), (15, .d (Bo (overK M k j))), (16, .d (I .i64 j))], bx := [], rw := [] })
          (fun j => j ≤ m) (fun j => m - j) 0 (by simp) ?_ ?_
        · refine Wkn.of [] [] ?_; simp (implicitDefEqProofs := false) (dsimp := false) only [overK, List.range_zero, List.any_nil, List.set_cons_zero, List.set_cons_succ, Bool.and_self, Nat.reduceAdd, Nat.reduceSub, Nat.reduceMul, List.replicate, evK_go, reduceIte, Nat.reduceEqDiff, Nat.reduceLT, and_self, List.foldl_cons, List.foldl_nil, Int.cast_ofNat_Int, slots, wkL_nil, wkL_cons, wkB_nil, wkR_nil, wkV_j, wkV_d, frz_d, reduceCtorEq]
        · intro j hj
          simp (implicitDefEqProofs := false) (dsimp := false) only [slots, ↓aw_cond, ↓aw_seq, ↓aw_reg, ↓Qseq_n, ↓ops_nil, ↓ops_cons, ↓eval_tmp, ↓put_some, ↓bK_b, ↓binE_i, ↓bi_lss, ↓op_move, ↓op_bin, List.getD_cons_zero, List.getD_cons_succ, List.set_cons_zero, List.set_cons_succ, Nat.reduceAdd, Nat.reduceSub, Nat.reduceMul, List.replicate, evK_go, reduceIte, Nat.reduceEqDiff, Nat.reduceLT, List.foldl_cons, List.foldl_nil]
          refine cdK_dec (fun h2 => ?_) (fun h2 => ?_)
          · have hjM : j < M.length := by omega
            have hos := overK_succ M k j
            simp (implicitDefEqProofs := false) (dsimp := false) only [↓gdK_f, ↓gval_mk, ↓gvL_zero, ↓gvL_succ, ↓aw_seq, ↓aw_block, ↓aw_skip, ↓aw_reg, ↓Qseq_n, ↓ops_cons, ↓ops_guard, ↓eval_tmp, ↓put_some, ↓op_move, ↓st_tm, List.getD_cons_zero, List.getD_cons_succ, List.set_cons_zero, List.set_cons_succ, Nat.reduceAdd, Nat.reduceSub, Nat.reduceMul, evK_go, reduceIte, Nat.reduceEqDiff, Nat.reduceLT]
            refine cdK_split (fun hb => ?_) (fun hb => ?_)
            · rw [hb, Bool.true_or] at hos
              simp (implicitDefEqProofs := false) (dsimp := false) only [hb, ↓cdK_true, ↓gdK_junk, ↓gdK_f, ↓gval_mk, ↓gvL_zero, ↓gvL_succ, ↓aw_reg, ↓Qseq_n, ↓Qblk_n, ↓ops_nil, ↓ops_cons, ↓ops_guard, ↓eval_tmp, ↓eval_int, ↓eval_bool, ↓put_some, ↓bK_b, ↓binE_i, ↓bi_add, ↓in_i64, ↓op_move, ↓op_assign, ↓op_pick, ↓op_bin, ↓st_tm, List.getD_cons_zero, List.getD_cons_succ, List.set_cons_zero, List.set_cons_succ, Nat.reduceAdd, Nat.reduceSub, Nat.reduceMul, evK_go, reduceIte, Nat.reduceEqDiff, Nat.reduceLT]
              refine ⟨by omega, j + 1, by omega, by omega, ?_⟩
              refine Wkn.of [] [] ?_; simp (implicitDefEqProofs := false) (dsimp := false) only [hos, List.set_cons_zero, List.set_cons_succ, Bool.and_self, Nat.reduceAdd, Nat.reduceSub, Nat.reduceMul, List.replicate, evK_go, reduceIte, Nat.reduceEqDiff, Nat.reduceLT, and_self, List.foldl_cons, List.foldl_nil, Int.cast_ofNat_Int, Int.natCast_add, slots, wkL_nil, wkL_cons, wkB_nil, wkR_nil, wkV_j, wkV_d, frz_d, reduceCtorEq]
            · simp (implicitDefEqProofs := false) (dsimp := false) only [hb, ↓cdK_false, ↓cdK_not, ↓gdK_t, ↓gdK_f, ↓gval_mk, ↓gvL_zero, ↓gvL_succ, ↓ops_guard, ↓eval_tmp, ↓put_some, ↓binE_i, ↓bi_neq, ↓op_move, ↓op_bin, ↓st_tm, List.getD_cons_zero, List.getD_cons_succ, List.set_cons_zero, List.set_cons_succ, Nat.reduceAdd, Nat.reduceSub, Nat.reduceMul, evK_go, reduceIte, Nat.reduceEqDiff, Nat.reduceLT, Int.natCast_inj]
              refine cdK_dec (fun h3 => ?_) (fun h3 => ?_)
              · have hd3 : decide (j = k) = true := decide_eq_true h3
                rw [hb, hd3] at hos
                simp (implicitDefEqProofs := false) (dsimp := false) only [hd3, ↓cdK_false, ↓gdK_t, ↓gdK_f, ↓gval_mk, ↓gvL_zero, ↓gvL_succ, ↓aw_reg, ↓Qseq_n, ↓Qblk_n, ↓ops_nil, ↓ops_cons, ↓ops_guard, ↓eval_tmp, ↓eval_int, ↓eval_bool, ↓put_some, ↓bK_b, ↓binE_i, ↓bi_add, ↓in_i64, ↓op_move, ↓op_assign, ↓op_pick, ↓op_bin, ↓st_tm, List.getD_cons_zero, List.getD_cons_succ, List.set_cons_zero, List.set_cons_succ, Nat.reduceAdd, Nat.reduceSub, Nat.reduceMul, evK_go, reduceIte, Bool.not_true, Nat.reduceEqDiff, Nat.reduceLT]
                refine ⟨by omega, j + 1, by omega, by omega, ?_⟩
                refine Wkn.of [] [] ?_; simp (implicitDefEqProofs := false) (dsimp := false) only [hos, Bool.not_true, Bool.false_and, Bool.or_self, List.set_cons_zero, List.set_cons_succ, Bool.and_self, Bool.false_and, Nat.reduceAdd, Nat.reduceSub, Nat.reduceMul, List.replicate, evK_go, reduceIte, Bool.not_true, Nat.reduceEqDiff, Nat.reduceLT, and_self, List.foldl_cons, List.foldl_nil, Int.cast_ofNat_Int, Int.natCast_add, slots, wkL_nil, wkL_cons, wkB_nil, wkR_nil, wkV_j, wkV_d, frz_d, reduceCtorEq, or_self]
              · have hd3 : decide (j = k) = false := decide_eq_false h3
                rw [hb, hd3] at hos
                simp (implicitDefEqProofs := false) (dsimp := false) only [hd3, hjM, liD, hasR_call, hs62, ↓cdK_true, ↓cdK_false, ↓gdK_t, ↓gdK_f, ↓gval_mk, ↓gvL_zero, ↓gvL_succ, ↓atK_H, ↓atH_map, ↓aw_reg, ↓Qseq_n, ↓Qblk_n, ↓ops_nil, ↓ops_cons, ↓ops_guard, ↓eval_tmp, ↓eval_int, ↓eval_func, ↓put_some, ↓bK_b, ↓iK_i, ↓binE_i, ↓bi_add, ↓in_i64, ↓ldK_q, ↓iaK_l, ↓op_move, ↓op_assign, ↓op_pick, ↓op_load, ↓op_bin, ↓op_ia, ↓op_call, isD_d, ↓fnK_f, ↓call_H, ↓callK_H, ↓allT_nil, ↓allT_cons, ↓td_d, ↓st_tm, ↓cells_l, ↓hd_cons, ↓ty28, ↓sl44, List.getD_cons_zero, List.getD_cons_succ, List.set_cons_zero, List.set_cons_succ, List.append_nil, List.length_cons, List.length_nil, List.all_cons, List.all_nil, Bool.true_and, Bool.and_self, Bool.true_or, Nat.reduceAdd, Nat.reduceSub, Nat.reduceMul, Nat.zero_add, Int.toNat_natCast, evK_go, reduceIte, Bool.not_false, Nat.reduceEqDiff, Nat.reduceLT, and_self, true_and, Int.zero_add, Int.natCast_nonneg]
                refine OrH.l (OrH.l ?_)
                refine ⟨by omega, j + 1, by omega, by omega, ?_⟩
                refine Wkn.of [] [] ?_; simp (implicitDefEqProofs := false) (dsimp := false) only [hos, Bool.not_false, Bool.true_and, Bool.false_or, List.set_cons_zero, List.set_cons_succ, Bool.true_and, Bool.and_self, Bool.false_or, Nat.reduceAdd, Nat.reduceSub, Nat.reduceMul, List.replicate, evK_go, reduceIte, Bool.not_false, Nat.reduceEqDiff, Nat.reduceLT, and_self, true_and, List.foldl_cons, List.foldl_nil, Int.cast_ofNat_Int, Int.natCast_add, slots, wkL_nil, wkL_cons, wkB_nil, wkR_nil, wkV_j, wkV_d, frz_d, reduceCtorEq, false_or]
          · obtain rfl : j = m := by omega
            simp (implicitDefEqProofs := false) (dsimp := false) only [↓cdK_not, ↓gdK_t, ↓gval_mk, ↓gvL_zero, ↓gvL_succ, ↓aw_seq, ↓aw_exit, ↓aw_ret, ↓aw_reg, ↓Qseq_n, ↓Qseq_x, ↓Qblk_x, ↓Qret_r, ↓ops_nil, ↓ops_cons, ↓ops_guard, ↓eval_tmp, ↓eval_int, ↓eval_bool, ↓put_some, ↓binE_i, ↓bi_add, ↓bi_neq, ↓in_i64, ↓op_move, ↓op_assign, ↓op_bin, ↓td_d, ↓ret_1, ↓st_tm, List.getD_cons_zero, List.getD_cons_succ, List.set_cons_zero, List.set_cons_succ, Nat.reduceAdd, Nat.reduceSub, Nat.reduceMul, evK_go, reduceIte, Nat.reduceEqDiff, Nat.reduceLT]
            refine cdK_dec (fun h3 => ?_) (fun h3 => ?_)
            · have hd3 : decide ((k : Int) = f) = true := decide_eq_true h3
              simp (implicitDefEqProofs := false) (dsimp := false) only [hd3, ↓cdK_false, ↓gdK_t, ↓gval_mk, ↓gvL_zero, ↓gvL_succ, ↓aw_cond, ↓aw_skip, ↓aw_reg, ↓Qseq_n, ↓Qblk_n, ↓ops_nil, ↓ops_cons, ↓ops_guard, ↓eval_tmp, ↓eval_int, ↓eval_bool, ↓put_some, ↓bK_b, ↓binE_i, ↓bi_add, ↓in_i64, ↓op_move, ↓op_assign, ↓op_pick, ↓op_bin, ↓st_tm, List.getD_cons_zero, List.getD_cons_succ, List.set_cons_zero, List.set_cons_succ, Nat.reduceAdd, Nat.reduceSub, Nat.reduceMul, evK_go, reduceIte, Bool.not_true, Nat.reduceEqDiff, Nat.reduceLT]
              refine ⟨by omega, k + 1, by omega, by omega, ?_⟩
              refine Wkn.of [] [] ?_; simp (implicitDefEqProofs := false) (dsimp := false) only [List.set_cons_zero, List.set_cons_succ, Bool.and_self, Nat.reduceAdd, Nat.reduceSub, Nat.reduceMul, List.replicate, evK_go, reduceIte, Nat.reduceEqDiff, Nat.reduceLT, and_self, List.foldl_cons, List.foldl_nil, Int.cast_ofNat_Int, Int.natCast_add, slots, wkL_nil, wkL_cons, wkB_nil, wkR_nil, wkV_j, wkV_d, frz_d, reduceCtorEq]
            · have hd3 : decide ((k : Int) = f) = false := decide_eq_false h3
              simp (implicitDefEqProofs := false) (dsimp := false) only [hd3, ↓cdK_true, ↓gdK_t, ↓gval_mk, ↓gvL_zero, ↓gvL_succ, ↓ops_cons, ↓ops_guard, ↓eval_tmp, ↓put_some, ↓bK_b, ↓op_move, ↓op_pick, ↓st_tm, List.getD_cons_zero, List.getD_cons_succ, List.set_cons_zero, List.set_cons_succ, Nat.reduceAdd, Nat.reduceSub, Nat.reduceMul, evK_go, reduceIte, Bool.not_false, Nat.reduceEqDiff, Nat.reduceLT]
              refine cdK_split (fun hb => ?_) (fun hb => ?_)
              · have hkC : (k : Int) ∈ C := by
                  obtain ⟨i', _, h5⟩ := List.any_eq_true.1 hb
                  rw [Bool.and_eq_true, decide_eq_true_eq] at h5
                  have h6 := h5.1
                  exact hcut i' k (by omega) h3 (by simpa using h6) h5.2
                simp (implicitDefEqProofs := false) (dsimp := false) only [hb, hasR_call, hC62, hkC, ↓cdK_true, ↓cdK_false, ↓gdK_t, ↓gval_mk, ↓gvL_zero, ↓gvL_succ, ↓aw_cond, ↓aw_skip, ↓aw_reg, ↓Qseq_n, ↓Qblk_n, ↓ops_nil, ↓ops_cons, ↓ops_guard, ↓eval_tmp, ↓eval_int, ↓eval_func, ↓put_some, ↓bK_b, ↓binE_i, ↓bi_add, ↓in_i64, ↓op_move, ↓op_assign, ↓op_pick, ↓op_bin, ↓op_not, ↓op_call, isD_d, ↓fnK_f, ↓call_H, ↓callK_H, ↓allT_nil, ↓allT_cons, ↓td_d, ↓st_tm, List.getD_cons_zero, List.getD_cons_succ, List.set_cons_zero, List.set_cons_succ, List.append_nil, List.all_cons, List.all_nil, Bool.true_and, Bool.and_self, Bool.true_or, Nat.reduceAdd, Nat.reduceSub, Nat.reduceMul, evK_go, reduceIte, decide_true, Bool.not_true, Nat.reduceEqDiff, Nat.reduceLT, and_self, true_and]
                (repeat refine OrH.l ?_)
                refine ⟨by omega, k + 1, by omega, by omega, ?_⟩
                refine Wkn.of [] [] ?_; simp (implicitDefEqProofs := false) (dsimp := false) only [List.set_cons_zero, List.set_cons_succ, Bool.and_self, Nat.reduceAdd, Nat.reduceSub, Nat.reduceMul, List.replicate, evK_go, reduceIte, Nat.reduceEqDiff, Nat.reduceLT, and_self, List.foldl_cons, List.foldl_nil, Int.cast_ofNat_Int, Int.natCast_add, slots, wkL_nil, wkL_cons, wkB_nil, wkR_nil, wkV_j, wkV_d, frz_d, reduceCtorEq]
              · simp (implicitDefEqProofs := false) (dsimp := false) only [hb, ↓cdK_false, ↓gdK_t, ↓gval_mk, ↓gvL_zero, ↓gvL_succ, ↓aw_cond, ↓aw_skip, ↓aw_reg, ↓Qseq_n, ↓Qblk_n, ↓ops_nil, ↓ops_cons, ↓ops_guard, ↓eval_tmp, ↓eval_int, ↓eval_bool, ↓put_some, ↓bK_b, ↓binE_i, ↓bi_add, ↓in_i64, ↓op_move, ↓op_assign, ↓op_pick, ↓op_bin, ↓st_tm, List.getD_cons_zero, List.getD_cons_succ, List.set_cons_zero, List.set_cons_succ, Nat.reduceAdd, Nat.reduceSub, Nat.reduceMul, evK_go, reduceIte, Nat.reduceEqDiff, Nat.reduceLT]
                refine ⟨by omega, k + 1, by omega, by omega, ?_⟩
                refine Wkn.of [] [] ?_; simp (implicitDefEqProofs := false) (dsimp := false) only [List.set_cons_zero, List.set_cons_succ, Bool.and_self, Nat.reduceAdd, Nat.reduceSub, Nat.reduceMul, List.replicate, evK_go, reduceIte, Nat.reduceEqDiff, Nat.reduceLT, and_self, List.foldl_cons, List.foldl_nil, Int.cast_ofNat_Int, Int.natCast_add, slots, wkL_nil, wkL_cons, wkB_nil, wkR_nil, wkV_j, wkV_d, frz_d, reduceCtorEq]
      · simp (implicitDefEqProofs := false) (dsimp := false) only [↓aw_seq, ↓aw_exit, ↓aw_ret, ↓aw_reg, ↓Qseq_n, ↓Qseq_x, ↓Qblk_x, ↓Qret_r, ↓ops_nil, ↓ops_cons, ↓eval_tmp, ↓eval_bool, ↓put_some, ↓op_assign, ↓td_d, ↓ret_1, List.getD_cons_zero, List.getD_cons_succ, List.set_cons_zero, List.set_cons_succ, Nat.reduceAdd, Nat.reduceSub, Nat.reduceMul, evK_go, reduceIte, Nat.reduceEqDiff, Nat.reduceLT]
end Go.Proofs

namespace Go.Proofs
set_option maxRecDepth 100000
theorem cutNo : ("cut".toList == "gc".toList || "cut".toList == "spec".toList) = false := by kernel_rfl
theorem cutNo2 : ("cut".toList == "carried".toList) = false := by kernel_rfl
theorem cutStrip (T : List (List Char)) : stripLifts liftWords ("cut".toList :: T) = ([], "cut".toList :: T) := by kernel_rfl
theorem make_of {P : Program} {T : List (List Char)} (h : behindMainWord (wordsSigns P.initOrder.toList) = "cut".toList :: T) : P.make = some .cut := by
  unfold Program.make
  rw [h]
  simp (implicitDefEqProofs := false) (dsimp := false) only [cutNo, beq_self_eq_true, Bool.true_or, Bool.false_eq_true, if_false, if_true]
theorem enter_of {P : Program} {T : List (List Char)} (h : behindMainWord (wordsSigns P.initOrder.toList) = "cut".toList :: T) (h1 : P.laysLater = false) (h2 : P.bearsReflect = false) (h3 : P.doorRows = []) : P.mayEnter = true := by
  unfold Program.mayEnter
  rw [h]
  simp (implicitDefEqProofs := false) (dsimp := false) only [cutStrip, cutNo, cutNo2, h1, h2, Program.doorFits, h3, List.head?_cons, beq_self_eq_true, Bool.not_false, Bool.or_true, Bool.and_true, Bool.true_and]
  rfl
theorem final_of {P : Program} {T : List (List Char)} (h : behindMainWord (wordsSigns P.initOrder.toList) = "cut".toList :: T) : P.liftsFinal = false := by
  unfold Program.liftsFinal Program.headLifts
  rw [h]
  simp (implicitDefEqProofs := false) (dsimp := false) only [cutStrip]
  kernel_rfl
theorem cutWord : behindMainWord (wordsSigns Try.prog.initOrder.toList) = "cut".toList :: (behindMainWord (wordsSigns Try.prog.initOrder.toList)).tail := by
  have h : Try.prog.initOrder.toList = _ := String.toList_ofList
  rw [h]
  show (_ : List (List Char)) = _
  kernel_rfl
theorem pLater : Try.prog.laysLater = false := by
  unfold Program.laysLater
  rw [← Array.any_toList]
  kernel_rfl
theorem pReflect : Try.prog.bearsReflect = false := by kernel_rfl
theorem pDoor : Try.prog.doorRows = [] := by kernel_rfl
theorem pMake : Try.prog.make = some .cut := make_of cutWord
theorem pEnter : Try.prog.mayEnter = true := enter_of cutWord pLater pReflect pDoor
theorem pFinal : Try.prog.liftsFinal = false := final_of cutWord
theorem pLaid : laidOutB Try.prog = true := by kernel_rfl
theorem pRowed : mapsRowed Try.prog = true := by kernel_rfl
theorem pStops : (Try.prog.stops == []) = true := by kernel_rfl
theorem pKnobs : (Try.prog.stopKnobs == []) = true := by kernel_rfl
theorem pHeard : Try.prog.stopsHeard = true := by kernel_rfl
theorem pOwn : ownKnob Try.prog.godebug = none := by kernel_rfl
theorem andB {a b : Bool} (ha : a = true) (hb : b = true) : (a && b) = true := by rw [ha, hb]; rfl
end Go.Proofs
