/- Part W 3 of what the proof of DomLast stands on: what the functions of the program compute. -/
import Derived.Test.YtblhpmhfhpmifaaW2
set_option linter.unusedVariables false
set_option linter.unusedSimpArgs false
namespace Go.Proofs
open Go.Aw
set_option linter.unusedSimpArgs false
set_option maxRecDepth 10000
/-- The lines that keep off a point. -/
def offI (l : List (Int × Int)) (k : Int) : List (Int × Int) := l.filter fun p => !decide (p.1 = k) && !decide (p.2 = k)
theorem offI_succ {l : List (Int × Int)} (k : Int) {i : Nat} (h : i < l.length) : offI (l.take (i + 1)) k = offI (l.take i) k ++ (if !decide ((l.getD i default).1 = k) && !decide ((l.getD i default).2 = k) then [l.getD i default] else []) := by
  rw [take_succ_getD h]
  unfold offI
  rw [List.filter_append]
  simp [List.filter_cons]
theorem offI_len (l : List (Int × Int)) (k : Int) : (offI l k).length ≤ l.length := List.length_filter_le _ _
theorem offI_nat {l : List (Int × Int)} (hl : ∀ p ∈ l, 0 ≤ p.1 ∧ 0 ≤ p.2) (k : Nat) : natL (offI l (k : Int)) = offL (natL l) k := by
  unfold natL offI offL
  rw [List.filter_map]
  congr 1
  refine List.filter_congr fun p hp => ?_
  have := hl p hp
  have e1 : (p.1.toNat = k) ↔ (p.1 = (k : Int)) := by omega
  have e2 : (p.2.toNat = k) ↔ (p.2 = (k : Int)) := by omega
  simp [Function.comp, natP, e1, e2]
theorem lDomCut_spec (n : Int) (l : List (Int × Int)) (f to k : Int) (_hn : -9223372036854775808 ≤ n ∧ n ≤ 9223372036854775807) (hpre : l.length < 2 ^ 43) (_hf : -9223372036854775808 ≤ f ∧ f ≤ 9223372036854775807)
    (_ht : -9223372036854775808 ≤ to ∧ to ≤ 9223372036854775807) (_hk : -9223372036854775808 ≤ k ∧ k ≤ 9223372036854775807) : FnD Try.prog 17 [I .i64 n, .l (l.map lnD), I .i64 f, I .i64 to, I .i64 k] (Bo true) := by
  have hl62 : l.length < 2 ^ 62 := by omega
  refine FnD.go Try.func17 rfl rfl Try.results17 Try.ntmps17 ?_
  simp (implicitDefEqProofs := false) (dsimp := false) only [↓aw_seq, ↓aw_reg, ↓Qseq_n, ↓ops_nil, ↓ops_cons, ↓eval_bool, ↓eval_func, ↓put_some, ↓op_assign, ↓op_call, isD_d, ↓fnK_f, ↓call_H, ↓callK_H, ↓allT_nil, ↓td_d, List.set_cons_zero, List.set_cons_succ, List.cons_append, List.nil_append, List.append_nil, List.map_cons, List.map_nil, List.length_cons, List.length_nil, List.all_nil, Bool.and_self, Nat.reduceAdd, Nat.reduceSub, Nat.reduceMul, Nat.zero_add, List.replicate, evK_go, reduceIte, Nat.reduceEqDiff, Nat.reduceLT, and_self, Int.zero_add]
  simp (implicitDefEqProofs := false) (dsimp := false) only [dfact_call, dof_call, hl62, eval_nilI, ↓er_neq, ↓cdK_false, ↓cdK_not, ↓nthK_H, ↓nthH_zero, ↓nthH_succ, ↓aw_cond, ↓aw_seq, ↓aw_skip, ↓aw_reg, ↓Qseq_n, ↓ops_nil, ↓ops_cons, ↓eval_tmp, ↓eval_func, ↓put_some, ↓bK_b, ↓tK_t, ↓op_move, ↓op_assign, ↓op_bin, ↓op_not, ↓op_extract, ↓op_call, isD_d, ↓fnK_f, ↓call_H, ↓callK_H, ↓allT_nil, ↓allT_cons, ↓td_d, List.getD_cons_zero, List.getD_cons_succ, List.set_cons_zero, List.set_cons_succ, List.append_nil, List.all_cons, List.all_nil, Bool.true_and, Bool.and_self, Bool.true_or, Nat.reduceAdd, Nat.reduceSub, Nat.reduceMul, evK_go, reduceIte, Bool.not_true, Nat.reduceEqDiff, Nat.reduceLT, and_self, true_and]
  (repeat refine OrH.l ?_)
  refine cdK_dec (fun hc => ?_) (fun hc => ?_)
  rotate_left
  · have e1 : domOf n l f = [] := if_neg hc
    simp (implicitDefEqProofs := false) (dsimp := false) only [e1, ↓aw_seq, ↓aw_ret, ↓aw_reg, ↓Qseq_n, ↓Qseq_r, ↓Qret_r, ↓ops_nil, ↓ops_cons, ↓eval_tmp, ↓eval_int, ↓put_some, ↓lenK_l, ↓binE_i, ↓bi_eql, ↓op_move, ↓op_assign, ↓op_bin, ↓op_len, ↓td_d, ↓ret_1, ↓sl44, List.getD_cons_zero, List.getD_cons_succ, List.set_cons_zero, List.set_cons_succ, List.map_nil, List.length_nil, Nat.reduceAdd, Nat.reduceSub, Nat.reduceMul, evK_go, reduceIte, decide_true, Nat.reduceEqDiff, Nat.reduceLT, Int.cast_ofNat_Int]
  obtain ⟨hc0, dw⟩ := domW hc
  have ok := chk_ok hc0
  have hX : ∀ z : Nat, k = (z : Int) → f ≠ k → domE n (offI l k) f = 0 := fun z hz hfk => by
    have h1 : chk n (offI l k) = 0 := chk_sub hc0 (by have := offI_len l k; have := ok.len; omega) fun p hp => (List.mem_filter.1 hp).1
    unfold domE at hc ⊢
    rw [if_pos hc0] at hc
    rw [if_pos h1]; exact hc
  have hrng := ok.rng
  have h24 := ok.len
  generalize hM : domOf n l f = M at dw ⊢
  generalize hm : n.toNat = m at dw
  generalize hx : f.toNat = x at dw
  have e0 := dw.n0
  have h8 := dw.hi
  have hlo := dw.lo
  have hML : ((M.length : Nat) : Int) = n := by rw [dw.len, e0]
  have hinf : inB f 0 (n - 1) = true := inB_iff.2 ⟨by have := dw.f0; omega, by have := dw.f0; have := dw.fm; omega⟩
  have hs62 : ∀ i : Nat, (M.getD i default).length < 2 ^ 62 := fun i => by have := dw.sz i; omega
  simp (implicitDefEqProofs := false) (dsimp := false) only [hML, in2_call, ↓cdK_false, ↓cdK_not, ↓gdK_f, ↓gval_mk, ↓gvL_zero, ↓gvL_succ, ↓aw_seq, ↓aw_skip, ↓aw_reg, ↓Qseq_n, ↓ops_cons, ↓ops_guard, ↓eval_tmp, ↓eval_int, ↓eval_func, ↓put_some, ↓bK_b, ↓lenK_l, ↓binE_i, ↓bi_sub, ↓bi_neq, ↓in_i64, ↓op_move, ↓op_pick, ↓op_bin, ↓op_not, ↓op_len, ↓op_call, isD_d, ↓fnK_f, ↓call_H, ↓callK_H, ↓allT_nil, ↓allT_cons, ↓td_d, ↓st_tm, ↓sl44, List.getD_cons_zero, List.getD_cons_succ, List.set_cons_zero, List.set_cons_succ, List.append_nil, List.length_map, List.all_cons, List.all_nil, Bool.true_and, Bool.and_self, Bool.true_or, Nat.reduceAdd, Nat.reduceSub, Nat.reduceMul, evK_go, reduceIte, decide_true, Bool.not_true, Nat.reduceEqDiff, Nat.reduceLT, and_self, true_and]
  refine ⟨by omega, ?_⟩
  (repeat refine OrH.l ?_)
  refine cdK_split (fun hA => ?_) (fun hA => ?_)
  rotate_left
  · simp (implicitDefEqProofs := false) (dsimp := false) only [hA, hML, ↓cdK_true, ↓gdK_f, ↓gval_mk, ↓gvL_zero, ↓gvL_succ, ↓aw_cond, ↓aw_seq, ↓aw_ret, ↓aw_reg, ↓Qseq_n, ↓Qseq_r, ↓Qret_r, ↓ops_nil, ↓ops_cons, ↓ops_guard, ↓eval_tmp, ↓eval_bool, ↓put_some, ↓bK_b, ↓lenK_l, ↓binE_i, ↓bi_eql, ↓op_move, ↓op_assign, ↓op_pick, ↓op_bin, ↓op_len, ↓td_d, ↓ret_1, ↓st_tm, ↓sl44, List.getD_cons_zero, List.getD_cons_succ, List.set_cons_zero, List.set_cons_succ, List.length_map, Nat.reduceAdd, Nat.reduceSub, Nat.reduceMul, evK_go, reduceIte, decide_true, Bool.not_false, Nat.reduceEqDiff, Nat.reduceLT]
  simp (implicitDefEqProofs := false) (dsimp := false) only [hA, in2_call, ↓cdK_false, ↓cdK_not, ↓gdK_f, ↓gval_mk, ↓gvL_zero, ↓gvL_succ, ↓ops_cons, ↓ops_guard, ↓eval_tmp, ↓eval_int, ↓eval_func, ↓put_some, ↓bK_b, ↓binE_i, ↓bi_sub, ↓in_i64, ↓op_move, ↓op_pick, ↓op_bin, ↓op_not, ↓op_call, isD_d, ↓fnK_f, ↓call_H, ↓callK_H, ↓allT_nil, ↓allT_cons, ↓td_d, ↓st_tm, List.getD_cons_zero, List.getD_cons_succ, List.set_cons_zero, List.set_cons_succ, List.append_nil, List.all_cons, List.all_nil, Bool.true_and, Bool.and_self, Bool.true_or, Nat.reduceAdd, Nat.reduceSub, Nat.reduceMul, evK_go, reduceIte, Bool.not_true, Nat.reduceEqDiff, Nat.reduceLT, and_self, true_and]
  refine ⟨by omega, OrH.l (OrH.l (cdK_split (fun hB => ?_) (fun hB => ?_)))⟩
  rotate_left
  · simp (implicitDefEqProofs := false) (dsimp := false) only [hB, hML, ↓cdK_true, ↓gdK_f, ↓gval_mk, ↓gvL_zero, ↓gvL_succ, ↓aw_cond, ↓aw_seq, ↓aw_ret, ↓aw_reg, ↓Qseq_n, ↓Qseq_r, ↓Qret_r, ↓ops_nil, ↓ops_cons, ↓ops_guard, ↓eval_tmp, ↓eval_bool, ↓put_some, ↓bK_b, ↓lenK_l, ↓binE_i, ↓bi_eql, ↓op_move, ↓op_assign, ↓op_pick, ↓op_bin, ↓op_len, ↓td_d, ↓ret_1, ↓st_tm, ↓sl44, List.getD_cons_zero, List.getD_cons_succ, List.set_cons_zero, List.set_cons_succ, List.length_map, Nat.reduceAdd, Nat.reduceSub, Nat.reduceMul, evK_go, reduceIte, decide_true, Bool.not_false, Nat.reduceEqDiff, Nat.reduceLT]
  simp (implicitDefEqProofs := false) (dsimp := false) only [hB, hinf, in2_call, ↓cdK_false, ↓gdK_f, ↓gval_mk, ↓gvL_zero, ↓gvL_succ, ↓ops_cons, ↓ops_guard, ↓eval_tmp, ↓eval_int, ↓eval_func, ↓put_some, ↓bK_b, ↓binE_i, ↓bi_sub, ↓bi_eql, ↓in_i64, ↓op_move, ↓op_pick, ↓op_bin, ↓op_not, ↓op_call, isD_d, ↓fnK_f, ↓call_H, ↓callK_H, ↓allT_nil, ↓allT_cons, ↓td_d, ↓st_tm, List.getD_cons_zero, List.getD_cons_succ, List.set_cons_zero, List.set_cons_succ, List.append_nil, List.all_cons, List.all_nil, Bool.true_and, Bool.and_self, Bool.true_or, Nat.reduceAdd, Nat.reduceSub, Nat.reduceMul, evK_go, reduceIte, Bool.not_true, Nat.reduceEqDiff, Nat.reduceLT, and_self, true_and]
  refine ⟨by omega, OrH.l (OrH.l (cdK_dec (fun hkf => ?_) (fun hkf => ?_)))⟩
  · have hd : decide (k = f) = true := decide_eq_true hkf
    simp (implicitDefEqProofs := false) (dsimp := false) only [hd, hML, ↓cdK_true, ↓gdK_f, ↓gval_mk, ↓gvL_zero, ↓gvL_succ, ↓aw_cond, ↓aw_seq, ↓aw_ret, ↓aw_reg, ↓Qseq_n, ↓Qseq_r, ↓Qret_r, ↓ops_nil, ↓ops_cons, ↓ops_guard, ↓eval_tmp, ↓eval_bool, ↓put_some, ↓bK_b, ↓lenK_l, ↓binE_i, ↓bi_eql, ↓op_move, ↓op_assign, ↓op_pick, ↓op_bin, ↓op_len, ↓td_d, ↓ret_1, ↓st_tm, ↓sl44, List.getD_cons_zero, List.getD_cons_succ, List.set_cons_zero, List.set_cons_succ, List.length_map, Nat.reduceAdd, Nat.reduceSub, Nat.reduceMul, evK_go, reduceIte, decide_true, Nat.reduceEqDiff, Nat.reduceLT]
  have hd : decide (k = f) = false := decide_eq_false hkf
  simp (implicitDefEqProofs := false) (dsimp := false) only [hd, ↓cdK_false, ↓gdK_f, ↓gval_mk, ↓gvL_zero, ↓gvL_succ, ↓aw_cond, ↓Qseq_n, ↓ops_nil, ↓ops_cons, ↓ops_guard, ↓eval_tmp, ↓put_some, ↓bK_b, ↓binE_i, ↓bi_eql, ↓op_move, ↓op_pick, ↓op_bin, ↓st_tm, List.getD_cons_zero, List.getD_cons_succ, List.set_cons_zero, List.set_cons_succ, Nat.reduceAdd, Nat.reduceSub, Nat.reduceMul, evK_go, reduceIte, Nat.reduceEqDiff, Nat.reduceLT]
  refine cdK_dec (fun hkt => ?_) (fun hkt => ?_)
  · have hd2 : decide (k = to) = true := decide_eq_true hkt
    simp (implicitDefEqProofs := false) (dsimp := false) only [hd2, hML, ↓aw_seq, ↓aw_ret, ↓aw_reg, ↓Qseq_n, ↓Qseq_r, ↓Qret_r, ↓ops_nil, ↓ops_cons, ↓eval_tmp, ↓put_some, ↓lenK_l, ↓binE_i, ↓bi_eql, ↓op_move, ↓op_assign, ↓op_bin, ↓op_len, ↓td_d, ↓ret_1, ↓sl44, List.getD_cons_zero, List.getD_cons_succ, List.set_cons_zero, List.set_cons_succ, List.length_map, Nat.reduceAdd, Nat.reduceSub, Nat.reduceMul, evK_go, reduceIte, decide_true, Nat.reduceEqDiff, Nat.reduceLT]
  have hd2 : decide (k = to) = false := decide_eq_false hkt
  have hA' := hA
  have hB' := hB
  rw [inB_iff] at hA' hB'
  obtain ⟨t, rfl⟩ := Int.eq_ofNat_of_zero_le hA'.1
  obtain ⟨z, rfl⟩ := Int.eq_ofNat_of_zero_le hB'.1
  have htM : t < M.length := by rw [dw.len]; omega
  simp (implicitDefEqProofs := false) (dsimp := false) only [htM, liD, ↓atK_H, ↓atH_map, ↓aw_cond, ↓aw_seq, ↓aw_skip, ↓aw_reg, ↓Qseq_n, ↓ops_nil, ↓ops_cons, ↓eval_tmp, ↓eval_int, ↓put_some, ↓bK_b, ↓iK_i, ↓lenK_l, ↓binE_i, ↓bi_eql, ↓ldK_q, ↓iaK_l, ↓op_move, ↓op_load, ↓op_bin, ↓op_ia, ↓op_len, ↓cells_l, ↓hd_cons, ↓ty28, ↓sl28, ↓sl44, List.getD_cons_zero, List.getD_cons_succ, List.set_cons_zero, List.set_cons_succ, List.length_cons, List.length_nil, List.length_map, Bool.true_and, Nat.reduceAdd, Nat.reduceSub, Nat.reduceMul, Nat.zero_add, Int.toNat_natCast, evK_go, reduceIte, Nat.reduceEqDiff, Nat.reduceLT, true_and, Int.zero_add, Int.natCast_nonneg, Int.natCast_inj]
  refine cdK_dec (fun hz => ?_) (fun hz => ?_)
  · simp (implicitDefEqProofs := false) (dsimp := false) only [hz, ↓aw_seq, ↓aw_ret, ↓aw_reg, ↓Qseq_n, ↓Qseq_r, ↓Qret_r, ↓ops_nil, ↓ops_cons, ↓eval_tmp, ↓eval_bool, ↓put_some, ↓op_assign, ↓td_d, ↓ret_1, List.getD_cons_zero, List.getD_cons_succ, List.set_cons_zero, List.set_cons_succ, Nat.reduceAdd, Nat.reduceSub, Nat.reduceMul, evK_go, reduceIte, decide_true, Nat.reduceEqDiff, Nat.reduceLT]
  simp (implicitDefEqProofs := false) (dsimp := false) only [↓aw_seq, ↓aw_block, ↓aw_skip, ↓aw_loop, ↓aw_reg, ↓Qseq_n, ↓ops_nil, ↓ops_cons, ↓eval_int, ↓eval_nil, ↓put_some, ↓op_assign, List.set_cons_zero, List.set_cons_succ, Nat.reduceAdd, Nat.reduceSub, Nat.reduceMul, evK_go, reduceIte, Nat.reduceEqDiff, Nat.reduceLT]
  refine loopW (fun i : Nat => { tm := slots 136 [(0, .d (I .i64 n)), (1, .d (.l (l.map lnD))), (2, .d (I .i64 f)), (3, .d (I .i64 (t : Int))), (4, .d (I .i64 (z : Int))), (12, .d (.l (M.map liD))), (14, .o 0 0 (offI (l.take i) (z : Int)).length), (15, .d (I .i64 i))], bx := [], rw := [some ⟨2, (offI (l.take i) (z : Int)).map lnD⟩] })
    (fun i => i ≤ l.length) (fun i => l.length - i) 0 (by simp) ?_ ?_
  · refine Wkn.of [] [none] ?_
    simp (implicitDefEqProofs := false) (dsimp := false) only [offI, List.filter_nil, ↓row_xs, List.set_cons_zero, List.set_cons_succ, List.map_nil, List.length_nil, Bool.and_self, Nat.reduceAdd, Nat.reduceSub, Nat.reduceMul, List.replicate, evK_go, reduceIte, Nat.reduceEqDiff, Nat.reduceLT, and_self, List.take_zero, List.foldl_cons, List.foldl_nil, Int.cast_ofNat_Int, slots, wkL_nil, wkL_cons, wkB_nil, wkR_nil, wkR_new, wkV_j, wkV_d, nlK_nl, wkV_o, frz_d, oK_zn, reduceCtorEq]
  · intro i hi
    have hol := offI_len (l.take i) (z : Int)
    rw [List.length_take] at hol
    simp (implicitDefEqProofs := false) (dsimp := false) only [slots, ↓aw_cond, ↓aw_seq, ↓aw_reg, ↓Qseq_n, ↓ops_nil, ↓ops_cons, ↓eval_tmp, ↓put_some, ↓bK_b, ↓lenK_l, ↓binE_i, ↓bi_lss, ↓op_move, ↓op_bin, ↓op_len, ↓sl22, List.getD_cons_zero, List.getD_cons_succ, List.set_cons_zero, List.set_cons_succ, List.length_map, Nat.reduceAdd, Nat.reduceSub, Nat.reduceMul, List.replicate, evK_go, reduceIte, Nat.reduceEqDiff, Nat.reduceLT, List.foldl_cons, List.foldl_nil, Int.ofNat_lt]
    refine cdK_dec (fun h => ?_) (fun h => ?_)
    · have hs := offI_succ (z : Int) h
      simp (implicitDefEqProofs := false) (dsimp := false) only [h, lnD, ↓cdK_not, ↓gdK_t, ↓gval_mk, ↓gvL_zero, ↓gvL_succ, ↓atK_H, ↓atH_map, ↓aw_seq, ↓aw_block, ↓aw_skip, ↓aw_reg, ↓Qseq_n, ↓ops_cons, ↓ops_guard, ↓eval_tmp, ↓put_some, ↓iK_i, ↓binE_i, ↓bi_neq, ↓ldK_q, ↓faK_q, ↓iaK_l, ↓op_move, ↓op_load, ↓op_bin, ↓op_fa, ↓op_ia, ↓st_tm, ↓cells_s, ↓hd_cons, ↓ty3, ↓sl22, ↓ty35, ↓fd35_0, List.getD_cons_zero, List.getD_cons_succ, List.set_cons_zero, List.set_cons_succ, List.length_cons, List.length_nil, Bool.true_and, Nat.reduceAdd, Nat.reduceSub, Nat.reduceMul, Nat.zero_add, Int.toNat_natCast, evK_go, reduceIte, decide_true, Nat.reduceEqDiff, Nat.reduceLT, true_and, Int.zero_add, List.drop_zero, Int.natCast_nonneg]
      refine cdK_dec (fun h1 => ?_) (fun h1 => ?_)
      · have hd3 : decide ((l.getD i default).1 = (z : Int)) = true := decide_eq_true h1
        simp (implicitDefEqProofs := false) (dsimp := false) only [hd3, Bool.not_true, Bool.false_and, Bool.false_eq_true, if_false, List.append_nil] at hs
        simp (implicitDefEqProofs := false) (dsimp := false) only [hd3, ↓cdK_false, ↓gdK_t, ↓gval_mk, ↓gvL_zero, ↓gvL_succ, ↓aw_cond, ↓aw_skip, ↓aw_reg, ↓Qseq_n, ↓Qblk_n, ↓ops_nil, ↓ops_cons, ↓ops_guard, ↓eval_tmp, ↓eval_int, ↓eval_bool, ↓put_some, ↓bK_b, ↓binE_i, ↓bi_add, ↓in_i64, ↓op_move, ↓op_assign, ↓op_pick, ↓op_bin, ↓st_tm, List.getD_cons_zero, List.getD_cons_succ, List.set_cons_zero, List.set_cons_succ, Nat.reduceAdd, Nat.reduceSub, Nat.reduceMul, evK_go, reduceIte, Bool.not_true, Nat.reduceEqDiff, Nat.reduceLT]
        refine ⟨by omega, i + 1, by omega, by omega, ?_⟩
        refine Wkn.of [] [some 0] ?_
        simp (implicitDefEqProofs := false) (dsimp := false) only [hs, List.getD_cons_zero, List.set_cons_zero, List.set_cons_succ, Bool.and_self, Nat.reduceAdd, Nat.reduceSub, Nat.reduceMul, List.replicate, evK_go, reduceIte, Nat.reduceEqDiff, Nat.reduceLT, and_self, List.foldl_cons, List.foldl_nil, Int.cast_ofNat_Int, Int.natCast_add, slots, wkL_nil, wkL_cons, wkB_nil, wkR_nil, wkR_some, wkV_j, wkV_d, wkV_o, frz_d, oK_zs, reduceCtorEq]
      · have hd3 : decide ((l.getD i default).1 = (z : Int)) = false := decide_eq_false h1
        simp (implicitDefEqProofs := false) (dsimp := false) only [hd3, h, lnD, ↓cdK_true, ↓cdK_not, ↓gdK_t, ↓gval_mk, ↓gvL_zero, ↓gvL_succ, ↓atK_H, ↓atH_map, ↓aw_cond, ↓Qseq_n, ↓ops_nil, ↓ops_cons, ↓ops_guard, ↓eval_tmp, ↓put_some, ↓bK_b, ↓iK_i, ↓binE_i, ↓bi_neq, ↓ldK_q, ↓faK_q, ↓iaK_l, ↓op_move, ↓op_pick, ↓op_load, ↓op_bin, ↓op_fa, ↓op_ia, ↓st_tm, ↓cells_s, ↓hd_cons, ↓ty3, ↓sl22, ↓ty35, ↓fd35_1, List.getD_cons_zero, List.getD_cons_succ, List.set_cons_zero, List.set_cons_succ, List.length_cons, List.length_nil, Bool.true_and, Nat.reduceAdd, Nat.reduceSub, Nat.reduceMul, Nat.zero_add, Int.toNat_natCast, evK_go, reduceIte, Bool.not_false, Nat.reduceEqDiff, Nat.reduceLT, true_and, Int.zero_add, List.drop_zero, List.drop_succ_cons, Int.natCast_nonneg]
        refine cdK_dec (fun h2 => ?_) (fun h2 => ?_)
        · have hd4 : decide ((l.getD i default).2 = (z : Int)) = true := decide_eq_true h2
          simp (implicitDefEqProofs := false) (dsimp := false) only [hd4, Bool.not_true, Bool.and_false, Bool.false_eq_true, if_false, List.append_nil] at hs
          simp (implicitDefEqProofs := false) (dsimp := false) only [hd4, ↓aw_skip, ↓aw_reg, ↓Qseq_n, ↓Qblk_n, ↓ops_nil, ↓ops_cons, ↓eval_tmp, ↓eval_int, ↓put_some, ↓binE_i, ↓bi_add, ↓in_i64, ↓op_move, ↓op_assign, ↓op_bin, List.getD_cons_zero, List.getD_cons_succ, List.set_cons_zero, List.set_cons_succ, Nat.reduceAdd, Nat.reduceSub, Nat.reduceMul, evK_go, reduceIte, Bool.not_true, Nat.reduceEqDiff, Nat.reduceLT]
          refine ⟨by omega, i + 1, by omega, by omega, ?_⟩
          refine Wkn.of [] [some 0] ?_
          simp (implicitDefEqProofs := false) (dsimp := false) only [hs, List.getD_cons_zero, List.set_cons_zero, List.set_cons_succ, Bool.and_self, Nat.reduceAdd, Nat.reduceSub, Nat.reduceMul, List.replicate, evK_go, reduceIte, Nat.reduceEqDiff, Nat.reduceLT, and_self, List.foldl_cons, List.foldl_nil, Int.cast_ofNat_Int, Int.natCast_add, slots, wkL_nil, wkL_cons, wkB_nil, wkR_nil, wkR_some, wkV_j, wkV_d, wkV_o, frz_d, oK_zs, reduceCtorEq]
        · have hd4 : decide ((l.getD i default).2 = (z : Int)) = false := decide_eq_false h2
          simp (implicitDefEqProofs := false) (dsimp := false) only [hd3, hd4, Bool.not_false, Bool.and_true, if_true] at hs
          simp (implicitDefEqProofs := false) (dsimp := false) only [hd4, h, lnD, ↓optK_some, ↓rwK_mk_, ↓atK_H, ↓atH_map, ↓aw_reg, ↓Qseq_n, ↓Qblk_n, ↓ops_nil, ↓ops_cons, ↓eval_tmp, ↓eval_int, ↓put_some, ↓iK_i, ↓dK_d, ↓binE_i, ↓bi_add, ↓in_i64, ↓ldK_q, ↓iaK_l, ↓op_move, ↓op_assign, ↓op_load, ↓op_bin, ↓op_ia, ↓op_append, ↓allD_nil, ↓allD_cons, ↓app_mk, ↓row_sz, ↓row_xs, kill_d, kill_j, kill_o, ↓cells_s, ↓one_i, ↓ap_, ↓ap_o, ↓src_l, ↓bs_, ↓op_bs, ↓bsL_f, ↓stored_mk, ↓sl_nil, ↓sl_cons, ↓sT_move, ↓sT_assign, ↓sT_load, ↓sT_ia, ↓sT_bs, ↓sT_call, ↓vsz_agg, ↓inO_1, ↓fm_nil, ↓fm_cons, ↓sl22, ↓ty35, ↓zb35, List.getD_cons_zero, List.getD_cons_succ, List.set_cons_zero, List.set_cons_succ, List.map_cons, List.map_nil, List.length_cons, List.length_nil, List.length_map, List.all_cons, List.all_nil, Bool.true_and, Bool.and_self, Bool.or_false, Nat.reduceAdd, Nat.reduceSub, Nat.reduceMul, Nat.zero_add, Int.toNat_natCast, evK_go, reduceIte, Bool.not_false, Nat.reduceEqDiff, Nat.reduceLT, and_self, true_and, Int.zero_add, List.drop_zero, List.take_succ_cons, List.take_nil, Int.natCast_nonneg]
          refine ⟨by decide, ⟨rfl, by decide⟩, rfl, ⟨fun _ => trivial, by omega, by omega⟩, by omega, i + 1, by omega, by omega, ?_⟩
          refine Wkn.of [] [some 0] ?_
          simp (implicitDefEqProofs := false) (dsimp := false) only [hs, List.map_append, List.length_append, lnD, List.getD_cons_zero, List.set_cons_zero, List.set_cons_succ, List.map_cons, List.map_nil, List.length_cons, List.length_nil, Bool.and_self, Nat.reduceAdd, Nat.reduceSub, Nat.reduceMul, Nat.zero_add, List.replicate, evK_go, reduceIte, Nat.reduceEqDiff, Nat.reduceLT, and_self, Int.zero_add, List.foldl_cons, List.foldl_nil, Int.cast_ofNat_Int, Int.natCast_add, slots, wkL_nil, wkL_cons, wkB_nil, wkR_nil, wkR_some, wkV_j, wkV_d, wkV_o, frz_d, oK_zs, reduceCtorEq]
    · obtain rfl : i = l.length := by omega
      rw [List.take_length]
      simp (implicitDefEqProofs := false) (dsimp := false) only [↓optK_some, ↓rwK_mk_, ↓aw_seq, ↓aw_exit, ↓aw_reg, ↓Qseq_n, ↓Qseq_x, ↓Qblk_x, ↓ops_cons, ↓eval_tmp, ↓eval_func, ↓put_some, ↓op_move, ↓op_call, isD_d, isD_o, ↓fnK_f, ↓call_H, ↓callK_H, ↓allT_nil, ↓allT_cons, ↓td_d, ↓td_o, ↓row_xs, ↓take_map, List.getD_cons_zero, List.getD_cons_succ, List.set_cons_zero, List.set_cons_succ, List.append_nil, List.all_cons, List.all_nil, Bool.and_true, Bool.and_self, Bool.and_false, Nat.reduceAdd, Nat.reduceSub, Nat.reduceMul, evK_go, reduceIte, decide_false, Nat.reduceEqDiff, Nat.reduceLT, and_self, and_true, Nat.lt_irrefl, List.drop_zero]
      have hO62 : (offI l (z : Int)).length < 2 ^ 62 := by have := offI_len l (z : Int); omega
      have hXz := hX z rfl fun e => hkf e.symm
      obtain ⟨hc2, dx⟩ := domW hXz
      have hiff : ((z : Int) ∈ M.getD t default) ↔ ((domOf n (offI l (z : Int)) f).getD t default).length = 0 := by
        have hf0 := dw.f0
        have hxz : x ≠ z := fun e => hkf (by omega)
        have htz : t ≠ z := fun e => hkt (by omega)
        have hfx : f.toNat = x := by omega
        have hp : Path (natL l) x t := by
          have : 0 < (M.getD t default).length := by omega
          have h1 := List.getElem_mem this
          obtain ⟨c, hc1, _⟩ := dw.pt t _ h1
          rw [hc1] at h1
          exact ((dw.iff t c).1 h1).1
        have h1 : (∃ c : Nat, (c : Int) ∈ (domOf n (offI l (z : Int)) f).getD t default) ↔ Avo (natL l) (fun y => y = z) x t := by
          rw [← off_path hxz]
          constructor
          · rintro ⟨c, hc⟩
            have := ((dx.iff t c).1 hc).1
            rw [offI_nat hrng, hfx] at this
            exact this
          · intro h
            refine ⟨t, (dx.iff t t).2 (Ov.self ?_)⟩
            rw [offI_nat hrng, hfx]; exact h
        rw [dw.iff]
        constructor
        · intro h
          have h2 := (h.2.resolve_left fun e => htz e.symm).resolve_left fun e => hxz e.symm
          refine Classical.byContradiction fun hne => h2 (h1.1 ?_)
          have : 0 < ((domOf n (offI l (z : Int)) f).getD t default).length := by omega
          have h3 := List.getElem_mem this
          obtain ⟨c, hc1, _⟩ := dx.pt t _ h3
          rw [hc1] at h3
          exact ⟨c, h3⟩
        · intro h
          refine ⟨hp, .inr (.inr fun ha => ?_)⟩
          obtain ⟨c, hc⟩ := h1.2 ha
          have := List.length_pos_of_mem hc
          omega
      have hXs := dx.sz t
      have hXl : (domOf n (offI l (z : Int)) f).length = m := by rw [dx.len, hm]
      have htX : t < (domOf n (offI l (z : Int)) f).length := by rw [hXl, ← dw.len]; exact htM
      refine OrH.r (Loud.frz { tm := slots 136 [(0, .d (I .i64 n)), (3, .d (I .i64 (t : Int))), (4, .d (I .i64 (z : Int))), (12, .d (.l (M.map liD))), (107, .d (I .i64 n)), (108, .d (.l ((offI l (z : Int)).map lnD))), (109, .d (I .i64 f))], bx := [], rw := [] } (Wkn.of [] [] ?_) ?_)
      · have e1 : List.take (offI l (z : Int)).length (List.map lnD (offI l (z : Int))) = List.map lnD (offI l (z : Int)) := List.take_of_length_le (by simp)
        simp (implicitDefEqProofs := false) (dsimp := false) only [e1, ↓optK_some, ↓row_xs, List.getD_cons_zero, List.set_cons_zero, List.set_cons_succ, Bool.and_self, Nat.reduceAdd, Nat.reduceSub, Nat.reduceMul, List.replicate, evK_go, reduceIte, Nat.reduceEqDiff, Nat.reduceLT, and_self, not_false_eq_true, List.drop_zero, List.foldl_cons, List.foldl_nil, slots, wkL_nil, wkL_cons, wkB_nil, wkR_nil, wkV_j, wkV_d, frz_d, frz_o, dl_eq, reduceCtorEq, List.not_mem_nil]
      · have hmn : ((m : Nat) : Int) = n := e0.symm
        by_cases hb : (z : Int) ∈ M.getD t default
        · have hb2 := hiff.1 hb
          simp (implicitDefEqProofs := false) (dsimp := false) only [slots, dof_call, hO62, hXz, hXl, htM, hmn, liD, hasR_callQ, hs62, hb, hb2, beq_self_eq_true, eval_nilI, ↓er_eql, ↓bo_eql, ↓cdK_true, ↓gdK_t, ↓gval_mk, ↓gvL_zero, ↓gvL_succ, ↓atK_H, ↓atH_map, ↓nthK_H, ↓nthH_zero, ↓nthH_succ, ↓aw_seq, ↓aw_ret, ↓aw_draw, ↓Qseq_n, ↓Qret_r, ↓ops_nil, ↓ops_cons, ↓eval_tmp, ↓eval_int, ↓eval_func, ↓put_some, ↓bK_b, ↓iK_i, ↓lenK_l, ↓ev_move, ↓ev_assign, ↓ev_pick, ↓ev_load, ↓ev_bin, ↓ev_ia, ↓tK_t, ↓ev_len, ↓binE_i, ↓bi_eql, ↓ldK_q, ↓iaK_l, ↓op_move, ↓op_assign, ↓op_extract, isD_d, ↓fnK_f, ↓call_H, ↓callK_H, ↓callKQ_H, ↓allT_nil, ↓allT_cons, ↓td_d, ↓ret_1, ↓draw_H, ↓h_nil, ↓h_cons, ↓ldH_n, ↓ldH_g, ↓q_call, ↓q_bi, ↓q_move, ↓q_assign, ↓q_pick, ↓q_load, ↓q_bin, ↓q_ia, ↓il_move, ↓il_assign, ↓il_pick, ↓il_load, ↓il_bin, ↓il_ia, ↓il_call, ↓il_len, ↓st_tm, ↓cells_l, ↓hd_cons, ↓ty28, ↓sl28, ↓sl44, List.getD_cons_zero, List.getD_cons_succ, List.set_cons_zero, List.set_cons_succ, List.append_nil, List.length_cons, List.length_nil, List.length_map, List.all_cons, List.all_nil, Bool.and_true, Bool.true_and, Bool.and_self, Bool.true_or, Nat.reduceAdd, Nat.reduceSub, Nat.reduceMul, Nat.zero_add, Int.toNat_natCast, List.replicate, evK_go, reduceIte, decide_true, Nat.reduceEqDiff, Nat.reduceLT, and_self, true_and, and_true, Int.zero_add, List.foldl_cons, List.foldl_nil, Int.cast_ofNat_Int, Int.natCast_nonneg]
          (repeat refine OrH.l ?_)
          refine ⟨DrawH.of follows_mixed (by kernel_rfl), ?_⟩
          (repeat refine OrH.l ?_)
          omega
        · have hb2 : ¬ (((domOf n (offI l (z : Int)) f).getD t default).length : Int) = 0 := fun h => hb (hiff.2 (by omega))
          simp (implicitDefEqProofs := false) (dsimp := false) only [slots, dof_call, hO62, hXz, hXl, htM, hmn, liD, hasR_callQ, hs62, hb, hb2, beq_self_eq_true, eval_nilI, ↓er_eql, ↓bo_eql, ↓cdK_true, ↓gdK_t, ↓gval_mk, ↓gvL_zero, ↓gvL_succ, ↓atK_H, ↓atH_map, ↓nthK_H, ↓nthH_zero, ↓nthH_succ, ↓aw_seq, ↓aw_ret, ↓aw_draw, ↓Qseq_n, ↓Qret_r, ↓ops_nil, ↓ops_cons, ↓eval_tmp, ↓eval_int, ↓eval_func, ↓put_some, ↓bK_b, ↓iK_i, ↓lenK_l, ↓ev_move, ↓ev_assign, ↓ev_pick, ↓ev_load, ↓ev_bin, ↓ev_ia, ↓tK_t, ↓ev_len, ↓binE_i, ↓bi_eql, ↓ldK_q, ↓iaK_l, ↓op_move, ↓op_assign, ↓op_extract, isD_d, ↓fnK_f, ↓call_H, ↓callK_H, ↓callKQ_H, ↓allT_nil, ↓allT_cons, ↓td_d, ↓ret_1, ↓draw_H, ↓h_nil, ↓h_cons, ↓ldH_n, ↓ldH_g, ↓q_call, ↓q_bi, ↓q_move, ↓q_assign, ↓q_pick, ↓q_load, ↓q_bin, ↓q_ia, ↓il_move, ↓il_assign, ↓il_pick, ↓il_load, ↓il_bin, ↓il_ia, ↓il_call, ↓il_len, ↓st_tm, ↓cells_l, ↓hd_cons, ↓ty28, ↓sl28, ↓sl44, List.getD_cons_zero, List.getD_cons_succ, List.set_cons_zero, List.set_cons_succ, List.append_nil, List.length_cons, List.length_nil, List.length_map, List.all_cons, List.all_nil, Bool.and_true, Bool.true_and, Bool.and_self, Bool.true_or, Nat.reduceAdd, Nat.reduceSub, Nat.reduceMul, Nat.zero_add, Int.toNat_natCast, List.replicate, evK_go, reduceIte, decide_true, decide_false, Nat.reduceEqDiff, Nat.reduceLT, and_self, true_and, and_true, Int.zero_add, List.foldl_cons, List.foldl_nil, Int.natCast_nonneg]
          (repeat refine OrH.l ?_)
          refine ⟨DrawH.of follows_mixed (by kernel_rfl), ?_⟩
          (repeat refine OrH.l ?_)
          omega
end Go.Proofs

namespace Go.Proofs
open Go.Aw
set_option linter.unusedSimpArgs false
set_option maxRecDepth 10000
theorem riseK_len (l : List Int) (k : Nat) (hk : k ≤ l.length) : (riseK l k).1.length = l.length ∧ (riseK l k).2.length = k := by
  obtain ⟨ps, h⟩ := riseK_spec l k hk
  exact ⟨h.len, by rw [h.out, List.length_map, h.ps_len]⟩
theorem rise_spec (l : List Int) (hpre : l.length ≤ 1000) : FnR Try.prog 55 [.l (l.map (I .i64))] 1 ((rising l).map (I .i64)) := by
  refine FnR.go Try.func55 rfl rfl Try.results55 Try.ntmps55 ?_
  simp (implicitDefEqProofs := false) (dsimp := false) only [↓aw_seq, ↓aw_block, ↓aw_loop, ↓aw_reg, ↓Qseq_n, ↓ops_nil, ↓ops_cons, ↓eval_tmp, ↓eval_int, ↓eval_nil, ↓put_some, ↓iK_i, ↓dK_d, ↓lenK_l, ↓op_move, ↓op_assign, ↓op_len, ↓op_make, ↓addRow_mk, ↓st_rw, ↓cells_c, ↓one_b, constV_b, ↓mk_, ↓vsz_bool, ↓ty4, ↓zb4, ↓sl28, ↓sl38, List.getD_cons_zero, List.getD_cons_succ, List.set_cons_zero, List.set_cons_succ, List.cons_append, List.nil_append, List.map_cons, List.map_nil, List.length_cons, List.length_nil, List.length_map, List.all_cons, List.all_nil, Bool.and_true, Bool.true_and, Bool.and_self, Nat.reduceAdd, Nat.reduceSub, Nat.reduceMul, Nat.zero_add, Int.toNat_natCast, List.replicate, evK_go, reduceIte, Nat.reduceEqDiff, Nat.reduceLT, and_self, true_and, and_true, Int.zero_add, Int.natCast_nonneg]
  refine ⟨⟨by omega, by decide⟩, ?_⟩
  refine loopW (fun k : Nat => { tm := slots 55 [(0, .d (.l (l.map (I .i64)))), (3, .o 1 0 k), (4, .o 0 0 l.length), (5, .d (I .i64 k))], bx := [], rw := [some ⟨1, (riseK l k).1.map Bo⟩, some ⟨1, (riseK l k).2.map (I .i64)⟩] })
    (fun k => k ≤ l.length) (fun k => l.length - k) 0 (by simp) ?_ ?_
  · refine Wkn.of [] [some 0, none] ?_
    simp (implicitDefEqProofs := false) (dsimp := false) only [riseK, List.map_replicate, ↓row_xs, List.getD_cons_zero, List.set_cons_zero, List.set_cons_succ, List.map_nil, Bool.and_self, Nat.reduceAdd, Nat.reduceSub, Nat.reduceMul, List.replicate, evK_go, reduceIte, Nat.reduceEqDiff, Nat.reduceLT, and_self, List.foldl_cons, List.foldl_nil, Int.cast_ofNat_Int, slots, wkL_nil, wkL_cons, wkB_nil, wkR_nil, wkR_some, wkR_new, wkV_j, wkV_d, nlK_nl, wkV_o, frz_d, oK_zs, oK_zn, oK_s, reduceCtorEq]
  · intro k hk
    simp (implicitDefEqProofs := false) (dsimp := false) only [slots, ↓aw_cond, ↓aw_seq, ↓aw_reg, ↓Qseq_n, ↓ops_nil, ↓ops_cons, ↓eval_tmp, ↓put_some, ↓bK_b, ↓lenK_l, ↓binE_i, ↓bi_lss, ↓op_move, ↓op_bin, ↓op_len, ↓sl28, List.getD_cons_zero, List.getD_cons_succ, List.set_cons_zero, List.set_cons_succ, List.length_map, Nat.reduceAdd, Nat.reduceSub, Nat.reduceMul, List.replicate, evK_go, reduceIte, Nat.reduceEqDiff, Nat.reduceLT, List.foldl_cons, List.foldl_nil, Int.ofNat_lt]
    refine cdK_dec (fun h => ?_) (fun h => ?_)
    · obtain ⟨hl1, hl2⟩ := riseK_len l k hk
      obtain ⟨x, hx1, hx2, _⟩ := riseM_lt l h
      have hK : riseK l (k + 1) = ((riseK l k).1.set x true, (riseK l k).2 ++ [l.getD x default]) := by
        show riseS l (riseK l k) = _
        unfold riseS
        rw [hx1, Int.toNat_natCast]
      generalize hU : (riseK l k).1 = used at *
      generalize hO : (riseK l k).2 = out at *
      simp (implicitDefEqProofs := false) (dsimp := false) only [↓aw_seq, ↓aw_block, ↓aw_skip, ↓aw_loop, ↓aw_reg, ↓Qseq_n, ↓ops_nil, ↓ops_cons, ↓eval_int, ↓put_some, ↓op_assign, List.set_cons_zero, List.set_cons_succ, Nat.reduceAdd, Nat.reduceSub, Nat.reduceMul, evK_go, reduceIte, Nat.reduceEqDiff, Nat.reduceLT]
      refine loopW (fun i : Nat => { tm := slots 55 [(0, .d (.l (l.map (I .i64)))), (3, .o 1 0 k), (4, .o 0 0 l.length), (5, .d (I .i64 k)), (6, .d (I .i64 ((List.range i).foldl (riseB l used) (-1)))), (7, .d (I .i64 i))], bx := [], rw := [some ⟨1, used.map Bo⟩, some ⟨1, out.map (I .i64)⟩] })
        (fun i => i ≤ l.length) (fun i => l.length - i) 0 (by simp) ?_ ?_
      · refine Wkn.of [] [some 0, some 1] ?_
        simp (implicitDefEqProofs := false) (dsimp := false) only [List.range_zero, List.getD_cons_zero, List.getD_cons_succ, List.set_cons_zero, List.set_cons_succ, Bool.and_self, Nat.reduceAdd, Nat.reduceSub, Nat.reduceMul, List.replicate, evK_go, reduceIte, Nat.reduceEqDiff, Nat.reduceLT, and_self, List.foldl_cons, List.foldl_nil, Int.cast_ofNat_Int, slots, wkL_nil, wkL_cons, wkB_nil, wkR_nil, wkR_some, wkV_j, wkV_d, wkV_o, frz_d, oK_zs, oK_s, reduceCtorEq]
      · intro i hi
        simp (implicitDefEqProofs := false) (dsimp := false) only [slots, ↓aw_cond, ↓aw_seq, ↓aw_reg, ↓Qseq_n, ↓ops_nil, ↓ops_cons, ↓eval_tmp, ↓put_some, ↓bK_b, ↓lenK_l, ↓binE_i, ↓bi_lss, ↓op_move, ↓op_bin, ↓op_len, ↓sl28, List.getD_cons_zero, List.getD_cons_succ, List.set_cons_zero, List.set_cons_succ, List.length_map, Nat.reduceAdd, Nat.reduceSub, Nat.reduceMul, List.replicate, evK_go, reduceIte, Nat.reduceEqDiff, Nat.reduceLT, List.foldl_cons, List.foldl_nil, Int.ofNat_lt]
        refine cdK_dec (fun h1 => ?_) (fun h1 => ?_)
        · have hst : (List.range (i + 1)).foldl (riseB l used) (-1) = riseB l used ((List.range i).foldl (riseB l used) (-1)) i := by rw [List.range_succ, List.foldl_append]; rfl
          have hsp := riseB_spec l used i hi
          have hiu : i < used.length := by omega
          generalize (List.range i).foldl (riseB l used) (-1) = b at hst hsp ⊢
          simp (implicitDefEqProofs := false) (dsimp := false) only [hiu, h1, ↓cdK_not, ↓gdK_t, ↓gval_mk, ↓gvL_zero, ↓gvL_succ, ↓optK_some, ↓rwK_mk_, ↓atK_H, ↓atH_map, ↓nthK_H, ↓nthH_zero, ↓aw_seq, ↓aw_block, ↓aw_skip, ↓aw_draw, ↓Qseq_n, ↓eval_tmp, ↓put_some, ↓bK_b, ↓iK_i, ↓ev_move, ↓ev_load, ↓ev_not, ↓ev_ia, ↓ldK_e, ↓iaK_o, ↓draw_H, ↓h_cons, ↓ldH_n, ↓ldH_g, ↓q_move, ↓q_load, ↓q_un, ↓q_ia, ↓il_move, ↓il_load, ↓il_un, ↓il_ia, ↓st_tm, ↓row_sz, ↓row_xs, ↓cells_c, ↓ty4, ↓sl38, List.getD_cons_zero, List.getD_cons_succ, List.set_cons_zero, List.set_cons_succ, Bool.true_and, Bool.and_self, Nat.reduceAdd, Nat.reduceSub, Nat.reduceMul, Nat.zero_add, Int.toNat_natCast, evK_go, reduceIte, decide_true, Nat.reduceEqDiff, Nat.reduceLT, and_self, true_and, Int.zero_add, Int.ofNat_lt, Int.natCast_nonneg]
          refine OrH.l ⟨DrawH.of follows_mixed (by kernel_rfl), ?_⟩
          cases hb : used.getD i default with
          | true =>
            have e : riseB l used b i = b := if_neg (by rw [hb]; simp)
            rw [e] at hst
            simp (implicitDefEqProofs := false) (dsimp := false) only [↓cdK_true, ↓cdK_false, ↓gdK_junk, ↓gdK_t, ↓gval_mk, ↓gvL_zero, ↓gvL_succ, ↓aw_cond, ↓aw_skip, ↓aw_reg, ↓Qseq_n, ↓Qblk_n, ↓ops_nil, ↓ops_cons, ↓eval_tmp, ↓eval_int, ↓eval_bool, ↓put_some, ↓bK_b, ↓ev_pick, ↓binE_i, ↓bi_add, ↓in_i64, ↓op_move, ↓op_assign, ↓op_bin, ↓h_nil, ↓h_cons, ↓ldH_n, ↓ldH_g, ↓q_pick, ↓il_move, ↓il_pick, ↓il_load, ↓il_bin, ↓il_ia, ↓st_tm, List.getD_cons_zero, List.getD_cons_succ, List.set_cons_zero, List.set_cons_succ, Nat.reduceAdd, Nat.reduceSub, Nat.reduceMul, evK_go, reduceIte, Bool.not_true, Nat.reduceEqDiff, Nat.reduceLT]
            refine ⟨by omega, i + 1, by omega, by omega, ?_⟩
            refine Wkn.of [] [some 0, some 1] ?_
            simp (implicitDefEqProofs := false) (dsimp := false) only [hst, List.getD_cons_zero, List.getD_cons_succ, List.set_cons_zero, List.set_cons_succ, Bool.and_self, Nat.reduceAdd, Nat.reduceSub, Nat.reduceMul, List.replicate, evK_go, reduceIte, Nat.reduceEqDiff, Nat.reduceLT, and_self, List.foldl_cons, List.foldl_nil, Int.cast_ofNat_Int, Int.natCast_add, slots, wkL_nil, wkL_cons, wkB_nil, wkR_nil, wkR_some, wkV_j, wkV_d, wkV_o, frz_d, oK_zs, oK_s, reduceCtorEq]
          | false =>
            rcases hsp with ⟨rfl, _⟩ | ⟨y, rfl, hy, _⟩
            · have e : riseB l used (-1) i = (i : Int) := if_pos ⟨hb, .inl (by decide)⟩
              rw [e] at hst
              have hd : decide ((-1 : Int) < 0) = true := rfl
              simp (implicitDefEqProofs := false) (dsimp := false) only [hd, ↓cdK_true, ↓cdK_false, ↓gdK_t, ↓gdK_f, ↓gval_mk, ↓gvL_zero, ↓gvL_succ, ↓aw_cond, ↓aw_reg, ↓Qseq_n, ↓Qblk_n, ↓ops_nil, ↓ops_cons, ↓eval_tmp, ↓eval_int, ↓eval_bool, ↓put_some, ↓bK_b, ↓ev_move, ↓ev_pick, ↓ev_bin, ↓binE_i, ↓bi_add, ↓bi_lss, ↓in_i64, ↓op_move, ↓op_assign, ↓op_bin, ↓h_nil, ↓h_cons, ↓ldH_n, ↓ldH_g, ↓q_move, ↓q_pick, ↓q_bin, ↓il_move, ↓il_pick, ↓il_load, ↓il_bin, ↓il_ia, ↓st_tm, List.getD_cons_zero, List.getD_cons_succ, List.set_cons_zero, List.set_cons_succ, Nat.reduceAdd, Nat.reduceSub, Nat.reduceMul, evK_go, reduceIte, Bool.not_false, Nat.reduceEqDiff, Nat.reduceLT]
              refine ⟨by omega, i + 1, by omega, by omega, ?_⟩
              refine Wkn.of [] [some 0, some 1] ?_
              simp (implicitDefEqProofs := false) (dsimp := false) only [hst, List.getD_cons_zero, List.getD_cons_succ, List.set_cons_zero, List.set_cons_succ, Bool.and_self, Nat.reduceAdd, Nat.reduceSub, Nat.reduceMul, List.replicate, evK_go, reduceIte, Nat.reduceEqDiff, Nat.reduceLT, and_self, List.foldl_cons, List.foldl_nil, Int.cast_ofNat_Int, Int.natCast_add, slots, wkL_nil, wkL_cons, wkB_nil, wkR_nil, wkR_some, wkV_j, wkV_d, wkV_o, frz_d, oK_zs, oK_s, reduceCtorEq]
            · have hd : decide ((y : Int) < 0) = false := by rw [decide_eq_false_iff_not]; omega
              have hyl : y < l.length := by omega
              simp (implicitDefEqProofs := false) (dsimp := false) only [hd, h1, hyl, ↓cdK_true, ↓cdK_false, ↓gdK_t, ↓gdK_f, ↓gval_mk, ↓gvL_zero, ↓gvL_succ, ↓atK_H, ↓atH_map, ↓aw_cond, ↓Qseq_n, ↓eval_tmp, ↓eval_int, ↓put_some, ↓bK_b, ↓iK_i, ↓ev_move, ↓ev_pick, ↓ev_load, ↓ev_bin, ↓ev_ia, ↓binE_i, ↓bi_lss, ↓ldK_q, ↓iaK_l, ↓h_nil, ↓h_cons, ↓ldH_n, ↓ldH_g, ↓q_move, ↓q_pick, ↓q_load, ↓q_bin, ↓q_ia, ↓il_move, ↓il_pick, ↓il_load, ↓il_bin, ↓il_ia, ↓st_tm, ↓cells_c, ↓hd_cons, ↓ty3, ↓sl28, List.getD_cons_zero, List.getD_cons_succ, List.set_cons_zero, List.set_cons_succ, List.length_cons, List.length_nil, Bool.true_and, Nat.reduceAdd, Nat.reduceSub, Nat.reduceMul, Nat.zero_add, Int.toNat_natCast, evK_go, reduceIte, Bool.not_false, Nat.reduceEqDiff, Nat.reduceLT, true_and, Int.zero_add, Int.natCast_nonneg]
              refine cdK_dec (fun h2 => ?_) (fun h2 => ?_)
              · have e : riseB l used (y : Int) i = (i : Int) := if_pos ⟨hb, .inr (by rw [Int.toNat_natCast]; exact h2)⟩
                rw [e] at hst
                have hd2 : decide (l.getD i default < l.getD y default) = true := decide_eq_true h2
                simp (implicitDefEqProofs := false) (dsimp := false) only [hd2, ↓aw_reg, ↓Qseq_n, ↓Qblk_n, ↓ops_nil, ↓ops_cons, ↓eval_tmp, ↓eval_int, ↓put_some, ↓binE_i, ↓bi_add, ↓in_i64, ↓op_move, ↓op_assign, ↓op_bin, List.getD_cons_zero, List.getD_cons_succ, List.set_cons_zero, List.set_cons_succ, Nat.reduceAdd, Nat.reduceSub, Nat.reduceMul, evK_go, reduceIte, Nat.reduceEqDiff, Nat.reduceLT]
                refine ⟨by omega, i + 1, by omega, by omega, ?_⟩
                refine Wkn.of [] [some 0, some 1] ?_
                simp (implicitDefEqProofs := false) (dsimp := false) only [hst, List.getD_cons_zero, List.getD_cons_succ, List.set_cons_zero, List.set_cons_succ, Bool.and_self, Nat.reduceAdd, Nat.reduceSub, Nat.reduceMul, List.replicate, evK_go, reduceIte, Nat.reduceEqDiff, Nat.reduceLT, and_self, List.foldl_cons, List.foldl_nil, Int.cast_ofNat_Int, Int.natCast_add, slots, wkL_nil, wkL_cons, wkB_nil, wkR_nil, wkR_some, wkV_j, wkV_d, wkV_o, frz_d, oK_zs, oK_s, reduceCtorEq]
              · have e : riseB l used (y : Int) i = (y : Int) := if_neg (by rw [Int.toNat_natCast]; rintro ⟨_, h3 | h3⟩ <;> omega)
                rw [e] at hst
                have hd2 : decide (l.getD i default < l.getD y default) = false := decide_eq_false h2
                simp (implicitDefEqProofs := false) (dsimp := false) only [hd2, ↓aw_skip, ↓aw_reg, ↓Qseq_n, ↓Qblk_n, ↓ops_nil, ↓ops_cons, ↓eval_tmp, ↓eval_int, ↓put_some, ↓binE_i, ↓bi_add, ↓in_i64, ↓op_move, ↓op_assign, ↓op_bin, List.getD_cons_zero, List.getD_cons_succ, List.set_cons_zero, List.set_cons_succ, Nat.reduceAdd, Nat.reduceSub, Nat.reduceMul, evK_go, reduceIte, Nat.reduceEqDiff, Nat.reduceLT]
                refine ⟨by omega, i + 1, by omega, by omega, ?_⟩
                refine Wkn.of [] [some 0, some 1] ?_
                simp (implicitDefEqProofs := false) (dsimp := false) only [hst, List.getD_cons_zero, List.getD_cons_succ, List.set_cons_zero, List.set_cons_succ, Bool.and_self, Nat.reduceAdd, Nat.reduceSub, Nat.reduceMul, List.replicate, evK_go, reduceIte, Nat.reduceEqDiff, Nat.reduceLT, and_self, List.foldl_cons, List.foldl_nil, Int.cast_ofNat_Int, Int.natCast_add, slots, wkL_nil, wkL_cons, wkB_nil, wkR_nil, wkR_some, wkV_j, wkV_d, wkV_o, frz_d, oK_zs, oK_s, reduceCtorEq]
        · obtain rfl : i = l.length := by omega
          have hx1' : (List.range l.length).foldl (riseB l used) (-1) = (x : Int) := hx1
          have hxu : x < used.length := by omega
          simp (implicitDefEqProofs := false) (dsimp := false) only [hx1', hx2, ↓optK_some, ↓rwK_mk_, ↓atK_H, ↓atH_map, ↓aw_seq, ↓aw_exit, ↓aw_ret, ↓aw_reg, ↓Qseq_n, ↓Qseq_x, ↓Qblk_n, ↓Qblk_x, ↓ops_nil, ↓ops_cons, ↓eval_tmp, ↓eval_int, ↓eval_bool, ↓put_some, ↓put_none, ↓iK_i, ↓dK_d, ↓binE_i, ↓bi_add, ↓in_i64, ↓ldK_q, ↓iaK_l, ↓iaK_o, ↓op_move, ↓op_assign, ↓op_load, ↓op_bin, ↓op_ia, ↓op_append, ↓op_store, ↓allD_nil, ↓allD_cons, ↓setRow_mk, ↓app_mk, ↓row_sz, ↓row_xs, kill_d, kill_j, kill_o, kill_e, ↓cells_c, ↓one_i, ↓one_b, ↓st_e, ↓ap_, ↓ap_o, ↓src_l, ↓bs_, ↓op_bs, ↓bsL_f, ↓stored_mk, ↓sl_nil, ↓sl_cons, ↓sT_move, ↓sT_assign, ↓sT_load, ↓sT_ia, ↓sT_bs, ↓sT_call, ↓vsz_int, ↓inO_1, ↓fm_nil, ↓fm_cons, ↓hd_cons, ↓Qrow_r, ↓rowK_o, ↓ty3, ↓zb3, ↓ty4, ↓sl28, ↓sl38, List.getD_cons_zero, List.getD_cons_succ, List.set_cons_zero, List.set_cons_succ, List.map_cons, List.map_nil, List.length_cons, List.length_nil, List.length_map, List.all_cons, List.all_nil, Bool.true_and, Bool.and_self, Bool.or_false, Nat.reduceAdd, Nat.reduceSub, Nat.reduceMul, Nat.zero_add, Int.toNat_natCast, evK_go, reduceIte, decide_false, Nat.reduceEqDiff, Nat.reduceLT, and_self, true_and, Nat.lt_irrefl, Int.zero_add, List.drop_zero, Int.ofNat_lt, Int.natCast_nonneg]
          refine ⟨by decide, ⟨fun _ => trivial, by omega, by omega, by omega⟩, by omega, k + 1, by omega, by omega, ?_⟩
          refine Wkn.of [] [some 0, some 1] ?_
          simp (implicitDefEqProofs := false) (dsimp := false) only [hK, List.map_append, List.map_set, List.getD_cons_zero, List.getD_cons_succ, List.set_cons_zero, List.set_cons_succ, List.map_cons, List.map_nil, Bool.and_self, Nat.reduceAdd, Nat.reduceSub, Nat.reduceMul, List.replicate, evK_go, reduceIte, Nat.reduceEqDiff, Nat.reduceLT, and_self, List.foldl_cons, List.foldl_nil, Int.cast_ofNat_Int, Int.natCast_add, slots, wkL_nil, wkL_cons, wkB_nil, wkR_nil, wkR_some, wkV_j, wkV_d, wkV_o, frz_d, oK_zs, oK_s, reduceCtorEq]
    · obtain rfl : k = l.length := by omega
      simp (implicitDefEqProofs := false) (dsimp := false) only [↓optK_some, ↓rwK_mk_, ↓aw_seq, ↓aw_exit, ↓aw_ret, ↓aw_reg, ↓Qseq_n, ↓Qseq_x, ↓Qblk_x, ↓ops_nil, ↓ops_cons, ↓eval_tmp, ↓put_some, ↓op_move, ↓op_assign, ↓row_sz, ↓row_xs, ↓Qrow_r, ↓rowK_o, List.getD_cons_zero, List.getD_cons_succ, List.set_cons_zero, List.set_cons_succ, Bool.true_and, Nat.reduceAdd, Nat.reduceSub, Nat.reduceMul, evK_go, reduceIte, decide_false, Nat.reduceEqDiff, Nat.reduceLT, true_and, Nat.lt_irrefl]
      have h2 := (riseK_len l l.length (Nat.le_refl _)).2
      exact List.take_of_length_le (by simp [h2])
theorem rise_call (l : List Int) (pure : Bool) (σ : St) (dst : Option Tmp) (K : St → Prop) : CallH Try.prog 55 [.l (l.map (I .i64))] pure σ dst (.mk : Hid K) = OrH ((l.length ≤ 1000) ∧ (pure || Res.flat (.row 1 ((rising l).map (I .i64)))) = true ∧ evK ((σ.addRow ⟨1, (rising l).map (I .i64)⟩).put dst (.o σ.rw.length 0 (List.length ((rising l).map (I .i64))))) (.mk : Hid K)) (.mk : Hid (CallH Try.prog 55 [.l (l.map (I .i64))] pure σ dst (.mk : Hid K))) := CallH.eqR (fun h => rise_spec l h) pure σ dst K
theorem rise_callD (l : List Int) (pure : Bool) (σ : St) (dst : Option Tmp) (K : St → Prop) : CallH Try.prog 55 [.l (l.map (I .i64))] pure σ dst (.mk : Hid K) = OrH ((l.length ≤ 1000) ∧ (pure || D.flat (.l ((rising l).map (I .i64)))) = true ∧ evK (σ.put dst (.d (.l ((rising l).map (I .i64))))) (.mk : Hid K)) (.mk : Hid (CallH Try.prog 55 [.l (l.map (I .i64))] pure σ dst (.mk : Hid K))) := CallH.eq (fun h => ((fun h => rise_spec l h) h).data) pure σ dst K
theorem rise_callDQ (l : List Int) (pure : Bool) (C : V → Prop) : CallQ Try.prog 55 [.l (l.map (I .i64))] pure (.mk : Hid C) = OrH ((l.length ≤ 1000) ∧ (pure || D.flat (.l ((rising l).map (I .i64)))) = true ∧ evK (V.d (.l ((rising l).map (I .i64)))) (.mk : Hid C)) (.mk : Hid (CallQ Try.prog 55 [.l (l.map (I .i64))] pure (.mk : Hid C))) := CallQ.eq (fun h => ((fun h => rise_spec l h) h).data) pure C
end Go.Proofs

namespace Go.Proofs
open Go.Aw
set_option linter.unusedSimpArgs false
set_option maxRecDepth 10000
/-- The way over the last ones. -/
def wayR (K : List Int) (i : Nat) : Nat → List Nat × Int
  | 0 => ([], (i : Int))
  | s + 1 => wayS K (wayR K i s)
theorem wayR_len (K : List Int) (i : Nat) : ∀ s, (wayR K i s).1.length = s := by
  intro s
  induction s with
  | zero => rfl
  | succ s ih => simp [wayR, wayS, ih]
theorem lDomLast_spec (n : Int) (l : List (Int × Int)) (f : Int) (_hn : -9223372036854775808 ≤ n ∧ n ≤ 9223372036854775807) (hpre : l.length < 2 ^ 43) (_hf : -9223372036854775808 ≤ f ∧ f ≤ 9223372036854775807) : FnD Try.prog 16 [I .i64 n, .l (l.map lnD), I .i64 f] (Bo true) := by
  have hl62 : l.length < 2 ^ 62 := by omega
  refine FnD.go Try.func16 rfl rfl Try.results16 Try.ntmps16 ?_
  simp (implicitDefEqProofs := false) (dsimp := false) only [↓aw_seq, ↓aw_reg, ↓Qseq_n, ↓ops_nil, ↓ops_cons, ↓eval_bool, ↓eval_func, ↓put_some, ↓op_assign, ↓op_call, isD_d, ↓fnK_f, ↓call_H, ↓callK_H, ↓allT_nil, ↓td_d, List.set_cons_zero, List.set_cons_succ, List.cons_append, List.nil_append, List.append_nil, List.map_cons, List.map_nil, List.length_cons, List.length_nil, List.all_nil, Bool.and_self, Nat.reduceAdd, Nat.reduceSub, Nat.reduceMul, Nat.zero_add, List.replicate, evK_go, reduceIte, Nat.reduceEqDiff, Nat.reduceLT, and_self, Int.zero_add]
  simp (implicitDefEqProofs := false) (dsimp := false) only [dfact_call, dof_call, dlast_call, hl62, eval_nilI, ↓er_neq, ↓cdK_false, ↓cdK_not, ↓gdK_f, ↓gval_mk, ↓gvL_zero, ↓gvL_succ, ↓nthK_H, ↓nthH_zero, ↓nthH_succ, ↓aw_cond, ↓aw_seq, ↓aw_skip, ↓aw_reg, ↓Qseq_n, ↓ops_nil, ↓ops_cons, ↓ops_guard, ↓eval_tmp, ↓eval_func, ↓put_some, ↓bK_b, ↓tK_t, ↓op_move, ↓op_assign, ↓op_bin, ↓op_not, ↓op_extract, ↓op_call, isD_d, ↓fnK_f, ↓call_H, ↓callK_H, ↓allT_nil, ↓allT_cons, ↓td_d, ↓st_tm, List.getD_cons_zero, List.getD_cons_succ, List.set_cons_zero, List.set_cons_succ, List.append_nil, List.all_cons, List.all_nil, Bool.true_and, Bool.and_self, Bool.true_or, Nat.reduceAdd, Nat.reduceSub, Nat.reduceMul, evK_go, reduceIte, Bool.not_true, Nat.reduceEqDiff, Nat.reduceLT, and_self, true_and]
  (repeat refine OrH.l ?_)
  refine cdK_dec (fun hc => ?_) (fun hc => ?_)
  rotate_left
  · simp (implicitDefEqProofs := false) (dsimp := false) only [hc, eval_nilI, ↓er_neq, ↓cdK_true, ↓gdK_t, ↓gdK_f, ↓gval_mk, ↓gvL_zero, ↓gvL_succ, ↓aw_cond, ↓aw_seq, ↓aw_ret, ↓aw_reg, ↓Qseq_n, ↓Qseq_r, ↓Qret_r, ↓ops_nil, ↓ops_cons, ↓ops_guard, ↓eval_tmp, ↓eval_bool, ↓put_some, ↓bK_b, ↓op_move, ↓op_assign, ↓op_pick, ↓op_bin, ↓td_d, ↓ret_1, ↓st_tm, List.getD_cons_zero, List.getD_cons_succ, List.set_cons_zero, List.set_cons_succ, Nat.reduceAdd, Nat.reduceSub, Nat.reduceMul, evK_go, reduceIte, decide_false, Bool.not_false, Nat.reduceEqDiff, Nat.reduceLT]
  obtain ⟨hc0, dw⟩ := domW hc
  have ok := chk_ok hc0
  have hg := ok.good
  have hK : domLast n l f = lastL n.toNat (ovL n.toNat (natL l) f.toNat) := if_pos hc
  have hfm : f.toNat < n.toNat := dw.fm
  have h8' := ok.hi
  have hM : domOf n l f = (ovL n.toNat (natL l) f.toNat).map ptsI := if_pos hc
  rw [hK]
  have hlast : ∀ i : Nat, ¬ (∃ k, Ov (natL l) f.toNat i k) → i < n.toNat → (lastL n.toNat (ovL n.toNat (natL l) f.toNat)).getD i default = -1 := fun i hno hi => by
    rw [last_get hi]
    rcases last_spec (by omega) hg hfm i with h | ⟨p, _, _, h, _⟩
    · exact h.1
    · exact absurd ⟨p, h⟩ hno
  have hstart : ∀ i : Nat, i < n.toNat → Path (natL l) f.toNat i → WI (natL l) n.toNat f.toNat i (wayR (lastL n.toNat (ovL n.toNat (natL l) f.toNat)) i 0) := fun i hi hp => WI.start hi hp
  have hnext : ∀ i s : Nat, WI (natL l) n.toNat f.toNat i (wayR (lastL n.toNat (ovL n.toNat (natL l) f.toNat)) i s) → 0 ≤ (wayR (lastL n.toNat (ovL n.toNat (natL l) f.toNat)) i s).2 → WI (natL l) n.toNat f.toNat i (wayR (lastL n.toNat (ovL n.toNat (natL l) f.toNat)) i (s + 1)) := fun i s h h0 => h.step (by omega) hg hfm h0
  have hend : ∀ i s : Nat, WI (natL l) n.toNat f.toNat i (wayR (lastL n.toNat (ovL n.toNat (natL l) f.toNat)) i s) → s = n.toNat → (wayR (lastL n.toNat (ovL n.toNat (natL l) f.toNat)) i s).2 = -1 := fun i s h e => h.ends hg hfm (by rw [wayR_len]; exact e)
  have hrise : ∀ (i : Nat) (w : List Nat), w.Nodup → (∀ k : Nat, k ∈ w ↔ Ov (natL l) f.toNat i k) → rising (w.map Int.ofNat) = (domOf n l f).getD i default := fun i w hw hm => by
    rw [hM, mapP_get]
    refine rising_pts ?_ fun y => ?_
    · unfold List.Nodup at hw ⊢
      rw [List.pairwise_map]
      exact hw.imp fun h e => h (Int.ofNat_inj.1 e)
    · rw [List.mem_map]
      unfold ptsI
      rw [List.mem_map]
      constructor
      · rintro ⟨k, hk, rfl⟩
        exact ⟨k, (ovL_mem (by omega) hg hfm i k).2 ((hm k).1 hk), rfl⟩
      · rintro ⟨k, hk, rfl⟩
        exact ⟨k, (hm k).2 ((ovL_mem (by omega) hg hfm i k).1 hk), rfl⟩
  have hKl : (lastL n.toNat (ovL n.toNat (natL l) f.toNat)).length = n.toNat := by simp [lastL]
  generalize lastL n.toNat (ovL n.toNat (natL l) f.toNat) = K at *
  have dwi := dw.iff
  generalize domOf n l f = M at *
  generalize natL l = L at *
  generalize n.toNat = m at *
  generalize hx : f.toNat = x at *
  have e0 := dw.n0
  have hlo := dw.lo
  have hML : M.length = m := dw.len
  have hmn : ((m : Nat) : Int) = n := e0.symm
  have hinf : inB f 0 (n - 1) = true := inB_iff.2 ⟨by have := dw.f0; omega, by have := dw.f0; omega⟩
  have hs62 : ∀ i : Nat, (M.getD i default).length < 2 ^ 62 := fun i => by have := dw.sz i; omega
  have hfx := dw.f0
  simp (implicitDefEqProofs := false) (dsimp := false) only [hc, hML, hKl, hmn, hinf, in2_call, eval_nilI, ↓er_neq, ↓cdK_false, ↓gdK_f, ↓gval_mk, ↓gvL_zero, ↓gvL_succ, ↓aw_cond, ↓aw_seq, ↓aw_block, ↓aw_skip, ↓aw_loop, ↓aw_reg, ↓Qseq_n, ↓ops_nil, ↓ops_cons, ↓ops_guard, ↓eval_tmp, ↓eval_int, ↓eval_func, ↓put_some, ↓bK_b, ↓lenK_l, ↓binE_i, ↓bi_sub, ↓bi_neq, ↓in_i64, ↓op_move, ↓op_assign, ↓op_pick, ↓op_bin, ↓op_not, ↓op_len, ↓op_call, isD_d, ↓fnK_f, ↓call_H, ↓callK_H, ↓allT_nil, ↓allT_cons, ↓td_d, ↓st_tm, ↓sl28, ↓sl44, List.getD_cons_zero, List.getD_cons_succ, List.set_cons_zero, List.set_cons_succ, List.append_nil, List.length_map, List.all_cons, List.all_nil, Bool.true_and, Bool.and_self, Bool.true_or, Nat.reduceAdd, Nat.reduceSub, Nat.reduceMul, evK_go, reduceIte, decide_true, Bool.not_true, Nat.reduceEqDiff, Nat.reduceLT, and_self, true_and]
  refine ⟨by omega, ?_⟩
  (repeat refine OrH.l ?_)
  refine loopW (fun i : Nat => { tm := slots 120 [(0, .d (I .i64 n)), (2, .d (I .i64 f)), (8, .d (.l (M.map liD))), (10, .d (.l (K.map (I .i64)))), (12, .d (I .i64 i))], bx := [], rw := [] })
    (fun i => i ≤ m) (fun i => m - i) 0 (by simp) ?_ ?_
  · refine Wkn.of [] [] ?_; simp (implicitDefEqProofs := false) (dsimp := false) only [List.set_cons_zero, List.set_cons_succ, Bool.and_self, Nat.reduceAdd, Nat.reduceSub, Nat.reduceMul, List.replicate, evK_go, reduceIte, Nat.reduceEqDiff, Nat.reduceLT, and_self, List.foldl_cons, List.foldl_nil, Int.cast_ofNat_Int, slots, wkL_nil, wkL_cons, wkB_nil, wkR_nil, wkV_j, wkV_d, frz_d, reduceCtorEq]
  · intro i hi
    simp (implicitDefEqProofs := false) (dsimp := false) only [slots, ↓aw_cond, ↓aw_seq, ↓aw_reg, ↓Qseq_n, ↓ops_nil, ↓ops_cons, ↓eval_tmp, ↓put_some, ↓bK_b, ↓binE_i, ↓bi_lss, ↓op_move, ↓op_bin, List.getD_cons_zero, List.getD_cons_succ, List.set_cons_zero, List.set_cons_succ, Nat.reduceAdd, Nat.reduceSub, Nat.reduceMul, List.replicate, evK_go, reduceIte, Nat.reduceEqDiff, Nat.reduceLT, List.foldl_cons, List.foldl_nil]
    refine cdK_dec (fun h => ?_) (fun h => ?_)
    · have him : i < m := by omega
      have hiM : i < M.length := by omega
      have hiK : i < K.length := by omega
      simp (implicitDefEqProofs := false) (dsimp := false) only [hiM, liD, ↓atK_H, ↓atH_map, ↓aw_cond, ↓aw_seq, ↓aw_block, ↓aw_skip, ↓aw_reg, ↓Qseq_n, ↓ops_nil, ↓ops_cons, ↓eval_tmp, ↓eval_int, ↓put_some, ↓bK_b, ↓iK_i, ↓lenK_l, ↓binE_i, ↓bi_eql, ↓ldK_q, ↓iaK_l, ↓op_move, ↓op_load, ↓op_bin, ↓op_ia, ↓op_len, ↓cells_l, ↓hd_cons, ↓ty28, ↓sl28, ↓sl44, List.getD_cons_zero, List.getD_cons_succ, List.set_cons_zero, List.set_cons_succ, List.length_cons, List.length_nil, List.length_map, Bool.true_and, Nat.reduceAdd, Nat.reduceSub, Nat.reduceMul, Nat.zero_add, Int.toNat_natCast, evK_go, reduceIte, Nat.reduceEqDiff, Nat.reduceLT, true_and, Int.zero_add, Int.natCast_nonneg]
      refine cdK_dec (fun h0 => ?_) (fun h0 => ?_)
      · have hno : ¬ ∃ k, Ov L x i k := fun ⟨k, hk⟩ => by
          have := List.length_pos_of_mem ((dwi i k).2 hk)
          omega
        have hk1 := hlast i hno him
        simp (implicitDefEqProofs := false) (dsimp := false) only [hiK, hk1, ↓cdK_false, ↓atK_H, ↓atH_map, ↓aw_cond, ↓aw_seq, ↓aw_exit, ↓aw_ret, ↓aw_skip, ↓aw_reg, ↓Qseq_n, ↓Qseq_x, ↓Qblk_x, ↓Qret_r, ↓ops_nil, ↓ops_cons, ↓eval_tmp, ↓eval_int, ↓eval_bool, ↓put_some, ↓bK_b, ↓iK_i, ↓binE_i, ↓bi_add, ↓bi_neq, ↓in_i64, ↓ldK_q, ↓iaK_l, ↓op_move, ↓op_assign, ↓op_load, ↓op_bin, ↓op_ia, ↓td_d, ↓ret_1, ↓cells_c, ↓hd_cons, ↓ty3, ↓sl28, List.getD_cons_zero, List.getD_cons_succ, List.set_cons_zero, List.set_cons_succ, List.length_cons, List.length_nil, Bool.true_and, Nat.reduceAdd, Nat.reduceSub, Nat.reduceMul, Nat.zero_add, Int.toNat_natCast, evK_go, reduceIte, decide_true, Bool.not_true, Nat.reduceEqDiff, Nat.reduceLT, true_and, Int.zero_add, Int.natCast_nonneg]
        refine ⟨by omega, i + 1, by omega, by omega, ?_⟩
        refine Wkn.of [] [] ?_; simp (implicitDefEqProofs := false) (dsimp := false) only [List.set_cons_zero, List.set_cons_succ, Bool.and_self, Nat.reduceAdd, Nat.reduceSub, Nat.reduceMul, List.replicate, evK_go, reduceIte, Nat.reduceEqDiff, Nat.reduceLT, and_self, List.foldl_cons, List.foldl_nil, Int.cast_ofNat_Int, Int.natCast_add, slots, wkL_nil, wkL_cons, wkB_nil, wkR_nil, wkV_j, wkV_d, frz_d, reduceCtorEq]
      · have hp : Path L x i := by
          have hpos : 0 < (M.getD i default).length := by omega
          have h1 := List.getElem_mem hpos
          obtain ⟨c, hc1, _⟩ := dw.pt i _ h1
          rw [hc1] at h1
          exact ((dwi i c).1 h1).1
        simp (implicitDefEqProofs := false) (dsimp := false) only [↓aw_seq, ↓aw_block, ↓aw_skip, ↓aw_loop, ↓aw_reg, ↓Qseq_n, ↓ops_nil, ↓ops_cons, ↓eval_tmp, ↓eval_int, ↓eval_nil, ↓put_some, ↓op_move, ↓op_assign, List.getD_cons_zero, List.getD_cons_succ, List.set_cons_zero, List.set_cons_succ, Nat.reduceAdd, Nat.reduceSub, Nat.reduceMul, evK_go, reduceIte, Nat.reduceEqDiff, Nat.reduceLT]
        refine loopW (fun s : Nat => { tm := slots 120 [(0, .d (I .i64 n)), (2, .d (I .i64 f)), (8, .d (.l (M.map liD))), (10, .d (.l (K.map (I .i64)))), (12, .d (I .i64 i)), (13, .o 0 0 s), (14, .d (I .i64 (wayR K i s).2)), (15, .d (I .i64 s))], bx := [], rw := [some ⟨1, (wayR K i s).1.map nD⟩] })
          (fun s => s ≤ m ∧ WI L m x i (wayR K i s)) (fun s => m - s) 0 ⟨by omega, hstart i him hp⟩ ?_ ?_
        · refine Wkn.of [] [none] ?_
          simp (implicitDefEqProofs := false) (dsimp := false) only [wayR, ↓row_xs, List.set_cons_zero, List.set_cons_succ, List.map_nil, Bool.and_self, Nat.reduceAdd, Nat.reduceSub, Nat.reduceMul, List.replicate, evK_go, reduceIte, Nat.reduceEqDiff, Nat.reduceLT, and_self, List.foldl_cons, List.foldl_nil, Int.cast_ofNat_Int, slots, wkL_nil, wkL_cons, wkB_nil, wkR_nil, wkR_new, wkV_j, wkV_d, nlK_nl, wkV_o, frz_d, oK_zn, reduceCtorEq]
        · rintro s ⟨hs, hwi⟩
          have hwl := wayR_len K i s
          have hes := hend i s hwi
          have hat := hwi.at'
          have hstep : wayR K i (s + 1) = ((wayR K i s).1 ++ [(wayR K i s).2.toNat], K.getD (wayR K i s).2.toNat default) := rfl
          have hnx := hnext i s hwi
          have hnd := hwi.nodup
          have hmem := hwi.mem
          generalize hws : wayR K i s = ws at *
          obtain ⟨way, at'⟩ := ws
          simp only at hwl hes hat hstep hnx hnd hmem
          simp (implicitDefEqProofs := false) (dsimp := false) only [slots, ↓gdK_t, ↓gval_mk, ↓gvL_zero, ↓gvL_succ, ↓aw_seq, ↓aw_reg, ↓ops_cons, ↓ops_guard, ↓eval_tmp, ↓put_some, ↓binE_i, ↓bi_lss, ↓op_move, ↓op_bin, ↓st_tm, List.getD_cons_zero, List.getD_cons_succ, List.set_cons_zero, List.set_cons_succ, Nat.reduceAdd, Nat.reduceSub, Nat.reduceMul, List.replicate, evK_go, reduceIte, Nat.reduceEqDiff, Nat.reduceLT, List.foldl_cons, List.foldl_nil]
          rcases hat with ⟨rfl, hall, hne, hlast'⟩ | ⟨a, rfl, ham, hia, _, _⟩
          · have hin : inB (-1) 0 (n - 1) = false := by simp [inB]
            have hr := hrise i way hnd fun k => ⟨hmem k, hall k⟩
            have hwl1 : 1 ≤ way.length := List.length_pos_iff.2 hne
            have hgl : way.getD (s - 1) default = x := by
              rw [List.getLast?_eq_getElem?, hwl] at hlast'
              rw [List.getD_eq_getElem?_getD, hlast']; rfl
            refine cdK_dec (fun h1 => ?_) (fun h1 => ?_)
            · have hd : decide ((s : Int) < n) = true := decide_eq_true h1
              simp (implicitDefEqProofs := false) (dsimp := false) only [hd, in2_call, hin, ↓cdK_true, ↓cdK_false, ↓gdK_t, ↓gdK_f, ↓gval_mk, ↓gvL_zero, ↓gvL_succ, ↓optK_some, ↓rwK_mk_, ↓atK_H, ↓atH_map, ↓nthK_H, ↓aw_cond, ↓aw_seq, ↓aw_exit, ↓aw_ret, ↓aw_reg, ↓aw_draw, ↓Qseq_n, ↓Qseq_x, ↓Qblk_x, ↓Qret_r, ↓ops_nil, ↓ops_cons, ↓ops_guard, ↓eval_tmp, ↓eval_int, ↓eval_bool, ↓eval_func, ↓put_some, ↓bK_b, ↓iK_i, ↓lenK_o, ↓ev_move, ↓ev_load, ↓ev_bin, ↓ev_ia, ↓ev_len, ↓binE_i, ↓bi_add, ↓bi_sub, ↓bi_neq, ↓in_i64, ↓ldK_e, ↓iaK_o, ↓op_move, ↓op_assign, ↓op_pick, ↓op_bin, ↓op_call, isD_d, ↓fnK_f, ↓call_H, ↓callK_H, ↓allT_nil, ↓allT_cons, ↓td_d, ↓ret_1, ↓draw_H, ↓h_cons, ↓ldH_n, ↓ldH_g, ↓q_bi, ↓q_move, ↓q_load, ↓q_bin, ↓q_ia, ↓il_move, ↓il_load, ↓il_bin, ↓il_ia, ↓il_len, ↓st_tm, ↓row_sz, ↓row_xs, ↓ty3, ↓sl28, List.getD_cons_zero, List.getD_cons_succ, List.set_cons_zero, List.set_cons_succ, List.append_nil, List.all_cons, List.all_nil, Bool.true_and, Bool.and_self, Bool.true_or, Nat.reduceAdd, Nat.reduceSub, Nat.reduceMul, Nat.zero_add, evK_go, reduceIte, decide_true, Bool.not_true, Nat.reduceEqDiff, Nat.reduceLT, and_self, true_and, Int.zero_add]
              refine ⟨by omega, ?_⟩
              refine OrH.l (OrH.l ?_)
              refine OrH.r (AW.frz { tm := slots 120 [(0, .d (I .i64 n)), (2, .d (I .i64 f)), (8, .d (.l (M.map liD))), (10, .d (.l (K.map (I .i64)))), (12, .d (I .i64 i)), (13, .d (.l ((way.map Int.ofNat).map (I .i64)))), (14, .d (I .i64 (-1)))], bx := [], rw := [] } (Wkn.of [] [] ?_) ?_)
              · have e1 : List.take s (way.map nD) = (way.map Int.ofNat).map (I .i64) := by rw [← nD_ints]; exact List.take_of_length_le (by simp [hwl])
                simp (implicitDefEqProofs := false) (dsimp := false) only [e1, ↓optK_some, ↓row_xs, List.getD_cons_zero, List.set_cons_zero, List.set_cons_succ, Bool.and_self, Nat.reduceAdd, Nat.reduceSub, Nat.reduceMul, List.replicate, evK_go, reduceIte, Nat.reduceEqDiff, Nat.reduceLT, and_self, not_false_eq_true, List.drop_zero, List.foldl_cons, List.foldl_nil, slots, wkL_nil, wkL_cons, wkB_nil, wkR_nil, wkV_j, wkV_d, frz_d, frz_o, dl_eq, reduceCtorEq, List.not_mem_nil]
              · have hw1000 : (way.map Int.ofNat).length ≤ 1000 := by simp; omega
                have hrl : (rising (way.map Int.ofNat)).length < 2 ^ 62 := by rw [(rising_spec _).1]; omega
                have hz1 : (s : Int) - 1 = ((s - 1 : Nat) : Int) := by omega
                have hz2 : s - 1 < s := by omega
                have hg2 : (way.map Int.ofNat).getD (s - 1) default = (x : Int) := by rw [List.getD_eq_getElem?_getD, List.getElem?_map]; rw [List.getD_eq_getElem?_getD] at hgl; rw [List.getElem?_eq_getElem (by omega)] at hgl ⊢; exact congrArg Int.ofNat hgl
                have hd2 : decide ((x : Int) = f) = true := by rw [decide_eq_true_eq]; omega
                simp (implicitDefEqProofs := false) (dsimp := false) only [slots, hz1, hz2, hwl, hg2, hd2, hiM, liD, rise_callDQ, hr, ints_callQ, hs62, ↓cdK_false, ↓gdK_f, ↓gval_mk, ↓gvL_zero, ↓gvL_succ, ↓atK_H, ↓atH_map, ↓aw_cond, ↓aw_skip, ↓aw_reg, ↓Qseq_n, ↓Qblk_n, ↓ops_nil, ↓ops_cons, ↓eval_tmp, ↓eval_int, ↓eval_func, ↓put_some, ↓bK_b, ↓iK_i, ↓lenK_l, ↓ev_move, ↓ev_pick, ↓ev_load, ↓ev_bin, ↓ev_not, ↓ev_ia, ↓ev_len, ↓binE_i, ↓bi_add, ↓bi_sub, ↓bi_neq, ↓in_i64, ↓ldK_q, ↓iaK_l, ↓op_move, ↓op_assign, ↓op_bin, isD_d, ↓fnK_f, ↓callKQ_H, ↓allT_nil, ↓allT_cons, ↓td_d, ↓draw_H, ↓h_nil, ↓h_cons, ↓ldH_n, ↓ldH_g, ↓q_call, ↓q_bi, ↓q_move, ↓q_pick, ↓q_load, ↓q_bin, ↓q_un, ↓q_ia, ↓il_move, ↓il_pick, ↓il_load, ↓il_bin, ↓il_un, ↓il_ia, ↓il_call, ↓il_len, ↓st_tm, ↓cells_c, ↓cells_l, ↓hd_cons, ↓ty3, ↓ty28, ↓sl28, ↓sl44, List.getD_cons_zero, List.getD_cons_succ, List.set_cons_zero, List.set_cons_succ, List.append_nil, List.length_cons, List.length_nil, List.length_map, List.all_cons, List.all_nil, Bool.true_and, Bool.and_self, Bool.true_or, Nat.reduceAdd, Nat.reduceSub, Nat.reduceMul, Nat.zero_add, Int.toNat_natCast, List.replicate, evK_go, reduceIte, decide_true, Bool.not_true, Nat.reduceEqDiff, Nat.reduceLT, and_self, true_and, Int.zero_add, List.foldl_cons, List.foldl_nil, Int.natCast_nonneg]
                refine OrH.l ⟨DrawH.of follows_mixed (by kernel_rfl), by omega, ?_⟩
                (repeat refine OrH.l ?_)
                refine ⟨by omega, ?_⟩
                (repeat refine OrH.l ?_)
                refine ⟨by omega, i + 1, by omega, by omega, ?_⟩
                refine Wkn.of [] [] ?_; simp (implicitDefEqProofs := false) (dsimp := false) only [Bool.and_self, Nat.reduceAdd, Nat.reduceSub, Nat.reduceMul, evK_go, reduceIte, Nat.reduceEqDiff, Nat.reduceLT, and_self, Int.cast_ofNat_Int, Int.natCast_add, slots, wkL_nil, wkL_cons, wkB_nil, wkR_nil, wkV_j, wkV_d, frz_d, reduceCtorEq]
            · have hd : decide ((s : Int) < n) = false := decide_eq_false h1
              simp (implicitDefEqProofs := false) (dsimp := false) only [hd, ↓cdK_false, ↓gdK_t, ↓gdK_f, ↓gval_mk, ↓gvL_zero, ↓gvL_succ, ↓optK_some, ↓rwK_mk_, ↓atK_H, ↓atH_map, ↓nthK_H, ↓aw_cond, ↓aw_seq, ↓aw_exit, ↓aw_ret, ↓aw_reg, ↓aw_draw, ↓Qseq_n, ↓Qseq_x, ↓Qblk_x, ↓Qret_r, ↓ops_nil, ↓ops_cons, ↓ops_guard, ↓eval_tmp, ↓eval_int, ↓eval_bool, ↓put_some, ↓bK_b, ↓iK_i, ↓lenK_o, ↓ev_move, ↓ev_load, ↓ev_bin, ↓ev_ia, ↓ev_len, ↓binE_i, ↓bi_add, ↓bi_sub, ↓bi_neq, ↓in_i64, ↓ldK_e, ↓iaK_o, ↓op_move, ↓op_assign, ↓op_pick, ↓op_bin, ↓td_d, ↓ret_1, ↓draw_H, ↓h_cons, ↓ldH_n, ↓ldH_g, ↓q_bi, ↓q_move, ↓q_load, ↓q_bin, ↓q_ia, ↓il_move, ↓il_load, ↓il_bin, ↓il_ia, ↓il_len, ↓st_tm, ↓row_sz, ↓row_xs, ↓ty3, ↓sl28, List.getD_cons_zero, List.getD_cons_succ, List.set_cons_zero, List.set_cons_succ, Bool.true_and, Nat.reduceAdd, Nat.reduceSub, Nat.reduceMul, Nat.zero_add, evK_go, reduceIte, decide_true, Bool.not_true, Nat.reduceEqDiff, Nat.reduceLT, true_and, Int.zero_add]
              refine OrH.r (AW.frz { tm := slots 120 [(0, .d (I .i64 n)), (2, .d (I .i64 f)), (8, .d (.l (M.map liD))), (10, .d (.l (K.map (I .i64)))), (12, .d (I .i64 i)), (13, .d (.l ((way.map Int.ofNat).map (I .i64)))), (14, .d (I .i64 (-1)))], bx := [], rw := [] } (Wkn.of [] [] ?_) ?_)
              · have e1 : List.take s (way.map nD) = (way.map Int.ofNat).map (I .i64) := by rw [← nD_ints]; exact List.take_of_length_le (by simp [hwl])
                simp (implicitDefEqProofs := false) (dsimp := false) only [e1, ↓optK_some, ↓row_xs, List.getD_cons_zero, List.set_cons_zero, List.set_cons_succ, Bool.and_self, Nat.reduceAdd, Nat.reduceSub, Nat.reduceMul, List.replicate, evK_go, reduceIte, Nat.reduceEqDiff, Nat.reduceLT, and_self, not_false_eq_true, List.drop_zero, List.foldl_cons, List.foldl_nil, slots, wkL_nil, wkL_cons, wkB_nil, wkR_nil, wkV_j, wkV_d, frz_d, frz_o, dl_eq, reduceCtorEq, List.not_mem_nil]
              · have hw1000 : (way.map Int.ofNat).length ≤ 1000 := by simp; omega
                have hrl : (rising (way.map Int.ofNat)).length < 2 ^ 62 := by rw [(rising_spec _).1]; omega
                have hz1 : (s : Int) - 1 = ((s - 1 : Nat) : Int) := by omega
                have hz2 : s - 1 < s := by omega
                have hg2 : (way.map Int.ofNat).getD (s - 1) default = (x : Int) := by rw [List.getD_eq_getElem?_getD, List.getElem?_map]; rw [List.getD_eq_getElem?_getD] at hgl; rw [List.getElem?_eq_getElem (by omega)] at hgl ⊢; exact congrArg Int.ofNat hgl
                have hd2 : decide ((x : Int) = f) = true := by rw [decide_eq_true_eq]; omega
                simp (implicitDefEqProofs := false) (dsimp := false) only [slots, hz1, hz2, hwl, hg2, hd2, hiM, liD, rise_callDQ, hr, ints_callQ, hs62, ↓cdK_false, ↓gdK_f, ↓gval_mk, ↓gvL_zero, ↓gvL_succ, ↓atK_H, ↓atH_map, ↓aw_cond, ↓aw_skip, ↓aw_reg, ↓Qseq_n, ↓Qblk_n, ↓ops_nil, ↓ops_cons, ↓eval_tmp, ↓eval_int, ↓eval_func, ↓put_some, ↓bK_b, ↓iK_i, ↓lenK_l, ↓ev_move, ↓ev_pick, ↓ev_load, ↓ev_bin, ↓ev_not, ↓ev_ia, ↓ev_len, ↓binE_i, ↓bi_add, ↓bi_sub, ↓bi_neq, ↓in_i64, ↓ldK_q, ↓iaK_l, ↓op_move, ↓op_assign, ↓op_bin, isD_d, ↓fnK_f, ↓callKQ_H, ↓allT_nil, ↓allT_cons, ↓td_d, ↓draw_H, ↓h_nil, ↓h_cons, ↓ldH_n, ↓ldH_g, ↓q_call, ↓q_bi, ↓q_move, ↓q_pick, ↓q_load, ↓q_bin, ↓q_un, ↓q_ia, ↓il_move, ↓il_pick, ↓il_load, ↓il_bin, ↓il_un, ↓il_ia, ↓il_call, ↓il_len, ↓st_tm, ↓cells_c, ↓cells_l, ↓hd_cons, ↓ty3, ↓ty28, ↓sl28, ↓sl44, List.getD_cons_zero, List.getD_cons_succ, List.set_cons_zero, List.set_cons_succ, List.append_nil, List.length_cons, List.length_nil, List.length_map, List.all_cons, List.all_nil, Bool.true_and, Bool.and_self, Bool.true_or, Nat.reduceAdd, Nat.reduceSub, Nat.reduceMul, Nat.zero_add, Int.toNat_natCast, List.replicate, evK_go, reduceIte, decide_true, Bool.not_true, Nat.reduceEqDiff, Nat.reduceLT, and_self, true_and, Int.zero_add, List.foldl_cons, List.foldl_nil, Int.natCast_nonneg]
                refine OrH.l ⟨DrawH.of follows_mixed (by kernel_rfl), by omega, ?_⟩
                (repeat refine OrH.l ?_)
                refine ⟨by omega, ?_⟩
                (repeat refine OrH.l ?_)
                refine ⟨by omega, i + 1, by omega, by omega, ?_⟩
                refine Wkn.of [] [] ?_; simp (implicitDefEqProofs := false) (dsimp := false) only [Bool.and_self, Nat.reduceAdd, Nat.reduceSub, Nat.reduceMul, evK_go, reduceIte, Nat.reduceEqDiff, Nat.reduceLT, and_self, Int.cast_ofNat_Int, Int.natCast_add, slots, wkL_nil, wkL_cons, wkB_nil, wkR_nil, wkV_j, wkV_d, frz_d, reduceCtorEq]
          · have hsm : s < m := by
              rcases Nat.lt_or_ge s m with h' | h'
              · exact h'
              · have := hes (by omega); omega
            have hd : decide ((s : Int) < n) = true := by rw [decide_eq_true_eq]; omega
            have hin : inB (a : Int) 0 (n - 1) = true := inB_iff.2 ⟨by omega, by omega⟩
            have haK : a < K.length := by omega
            refine cdK_dec (fun h1 => ?_) (fun h1 => by omega)
            simp (implicitDefEqProofs := false) (dsimp := false) only [hd, in2_call, hin, haK, ↓cdK_true, ↓gdK_t, ↓gval_mk, ↓gvL_zero, ↓gvL_succ, ↓optK_some, ↓rwK_mk_, ↓atK_H, ↓atH_map, ↓aw_cond, ↓aw_seq, ↓aw_block, ↓aw_skip, ↓aw_reg, ↓Qseq_n, ↓Qblk_n, ↓ops_nil, ↓ops_cons, ↓ops_guard, ↓eval_tmp, ↓eval_int, ↓eval_func, ↓put_some, ↓bK_b, ↓iK_i, ↓dK_d, ↓binE_i, ↓bi_add, ↓bi_sub, ↓in_i64, ↓ldK_q, ↓iaK_l, ↓op_move, ↓op_assign, ↓op_pick, ↓op_load, ↓op_bin, ↓op_ia, ↓op_append, ↓op_call, isD_d, ↓fnK_f, ↓call_H, ↓callK_H, ↓allT_nil, ↓allT_cons, ↓allD_nil, ↓allD_cons, ↓td_d, ↓app_mk, ↓st_tm, ↓row_sz, ↓row_xs, kill_d, kill_j, kill_o, ↓cells_c, ↓one_i, ↓ap_, ↓ap_o, ↓src_l, ↓bs_, ↓op_bs, ↓bsL_f, ↓stored_mk, ↓sl_nil, ↓sl_cons, ↓sT_move, ↓sT_assign, ↓sT_bs, ↓sT_call, ↓vsz_int, ↓inO_1, ↓fm_nil, ↓fm_cons, ↓hd_cons, ↓ty3, ↓zb3, ↓sl28, List.getD_cons_zero, List.getD_cons_succ, List.set_cons_zero, List.set_cons_succ, List.append_nil, List.map_cons, List.map_nil, List.length_cons, List.length_nil, List.length_map, List.all_cons, List.all_nil, Bool.true_and, Bool.and_self, Bool.true_or, Bool.or_false, Nat.reduceAdd, Nat.reduceSub, Nat.reduceMul, Nat.zero_add, Int.toNat_natCast, evK_go, reduceIte, Nat.reduceEqDiff, Nat.reduceLT, and_self, true_and, Int.zero_add, List.drop_zero, Int.natCast_nonneg]
            refine ⟨by omega, OrH.l (OrH.l ⟨by decide, ⟨fun _ => trivial, by omega, by omega, by omega⟩, by omega, s + 1, ⟨by omega, hnx (by omega)⟩, by omega, ?_⟩)⟩
            refine Wkn.of [] [some 0] ?_
            simp (implicitDefEqProofs := false) (dsimp := false) only [hstep, Int.toNat_natCast, List.map_append, nD, List.getD_cons_zero, List.set_cons_zero, List.set_cons_succ, List.map_cons, List.map_nil, Bool.and_self, Nat.reduceAdd, Nat.reduceSub, Nat.reduceMul, Int.toNat_natCast, List.replicate, evK_go, reduceIte, Nat.reduceEqDiff, Nat.reduceLT, and_self, List.foldl_cons, List.foldl_nil, Int.cast_ofNat_Int, Int.natCast_add, slots, wkL_nil, wkL_cons, wkB_nil, wkR_nil, wkR_some, wkV_j, wkV_d, wkV_o, frz_d, oK_zs, reduceCtorEq]
    · simp (implicitDefEqProofs := false) (dsimp := false) only [↓aw_seq, ↓aw_exit, ↓aw_ret, ↓aw_reg, ↓Qseq_n, ↓Qseq_x, ↓Qblk_x, ↓Qret_r, ↓ops_nil, ↓ops_cons, ↓eval_tmp, ↓eval_bool, ↓put_some, ↓op_assign, ↓td_d, ↓ret_1, List.getD_cons_zero, List.getD_cons_succ, List.set_cons_zero, List.set_cons_succ, Nat.reduceAdd, Nat.reduceSub, Nat.reduceMul, evK_go, reduceIte, Nat.reduceEqDiff, Nat.reduceLT]
end Go.Proofs

namespace Go.Proofs
set_option maxRecDepth 100000
theorem cutNo : ("cut".toList == "gc".toList || "cut".toList == "spec".toList) = false := by kernel_rfl
theorem cutNo2 : ("cut".toList == "carried".toList) = false := by kernel_rfl
theorem cutStrip (T : List (List Char)) : stripLifts liftWords ("cut".toList :: T) = ([], "cut".toList :: T) := by kernel_rfl
theorem make_of {P : Program} {T : List (List Char)} (h : behindMainWord (wordsSigns P.initOrder.toList) = "cut".toList :: T) : P.make = some .cut := by
  unfold Program.make
  rw [h]
  simp (implicitDefEqProofs := false) (dsimp := false) only [cutNo, beq_self_eq_true, Bool.true_or, Bool.false_eq_true, if_false, if_true]
theorem enter_of {P : Program} {T : List (List Char)} (h : behindMainWord (wordsSigns P.initOrder.toList) = "cut".toList :: T) (h1 : P.laysLater = false) (h2 : P.bearsReflect = false) (h3 : P.doorRows = []) : P.mayEnter = true := by
  unfold Program.mayEnter
  rw [h]
  simp (implicitDefEqProofs := false) (dsimp := false) only [cutStrip, cutNo, cutNo2, h1, h2, Program.doorFits, h3, List.head?_cons, beq_self_eq_true, Bool.not_false, Bool.or_true, Bool.and_true, Bool.true_and]
  rfl
theorem final_of {P : Program} {T : List (List Char)} (h : behindMainWord (wordsSigns P.initOrder.toList) = "cut".toList :: T) : P.liftsFinal = false := by
  unfold Program.liftsFinal Program.headLifts
  rw [h]
  simp (implicitDefEqProofs := false) (dsimp := false) only [cutStrip]
  kernel_rfl
theorem cutWord : behindMainWord (wordsSigns Try.prog.initOrder.toList) = "cut".toList :: (behindMainWord (wordsSigns Try.prog.initOrder.toList)).tail := by
  have h : Try.prog.initOrder.toList = _ := String.toList_ofList
  rw [h]
  show (_ : List (List Char)) = _
  kernel_rfl
theorem pLater : Try.prog.laysLater = false := by
  unfold Program.laysLater
  rw [← Array.any_toList]
  kernel_rfl
theorem pReflect : Try.prog.bearsReflect = false := by kernel_rfl
theorem pDoor : Try.prog.doorRows = [] := by kernel_rfl
theorem pMake : Try.prog.make = some .cut := make_of cutWord
theorem pEnter : Try.prog.mayEnter = true := enter_of cutWord pLater pReflect pDoor
theorem pFinal : Try.prog.liftsFinal = false := final_of cutWord
theorem pLaid : laidOutB Try.prog = true := by kernel_rfl
theorem pRowed : mapsRowed Try.prog = true := by kernel_rfl
theorem pStops : (Try.prog.stops == []) = true := by kernel_rfl
theorem pKnobs : (Try.prog.stopKnobs == []) = true := by kernel_rfl
theorem pHeard : Try.prog.stopsHeard = true := by kernel_rfl
theorem pOwn : ownKnob Try.prog.godebug = none := by kernel_rfl
theorem andB {a b : Bool} (ha : a = true) (hb : b = true) : (a && b) = true := by rw [ha, hb]; rfl
end Go.Proofs
