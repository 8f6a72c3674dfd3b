/- Part W 3 of what the proof of MatchHall stands on: what the functions of the program compute. -/
import Derived.Test.YtblhpmhfhpmifaaW2
set_option linter.unusedVariables false
set_option linter.unusedSimpArgs false
namespace Go.Proofs
open Go.Aw
set_option linter.unusedSimpArgs false
set_option maxRecDepth 10000
/-- What is known of where ways go. -/
structure CW (n : Int) (l : List (Int × Int)) (M : List (List Int)) (m : Nat) : Prop where
  n0 : n = (m : Int)
  hi : m ≤ 8
  llen : l.length ≤ 24
  len : M.length = m
  sz : ∀ i : Nat, (M.getD i default).length ≤ 64
  line : ∀ p ∈ l, ∃ x y : Nat, p = ((x : Int), (y : Int)) ∧ x < m ∧ y < m ∧ x ≠ y ∧ (y : Int) ∈ M.getD x default
  pt : ∀ (a : Nat) (b : Int), b ∈ M.getD a default → ∃ c : Nat, b = (c : Int) ∧ c < m ∧ a < m
  tr : ∀ (a b : Nat) (c : Int), (b : Int) ∈ M.getD a default → c ∈ M.getD b default → c ∈ M.getD a default
theorem closeW {n : Int} {l : List (Int × Int)} (hc : chk n l = 0) : CW n l (closeAll n l) n.toNat := by
  have ok := chk_ok hc
  have e : closeAll n l = (war n.toNat (natL l)).map ptsI := if_pos hc
  have hk : ∀ (i : Nat) (j : Int), j ∈ (closeAll n l).getD i default ↔ ∃ c : Nat, j = (c : Int) ∧ Path1 (natL l) i c := fun i j => by
    rw [e, mapP_get]
    constructor
    · intro h
      obtain ⟨c, hc1, rfl⟩ := List.mem_map.1 h
      exact ⟨c, rfl, (war_bit ok.good _ _).1 ((pts_mem _ _).1 hc1).2⟩
    · rintro ⟨c, rfl, h⟩
      have := (h.lt ok.good).2
      have := ok.hi
      exact (ptsI_mem _ _).2 ⟨by omega, (war_bit ok.good _ _).2 h⟩
  refine ⟨ok.n0, ok.hi, ok.len, by rw [e, List.length_map]; exact war_len ok.good, fun i => by rw [e, mapP_get]; exact ptsI_len _, fun p hp => ?_, fun a b hb => ?_, fun a b c hb hc => ?_⟩
  · have h1 := ok.rng p hp
    have h2 : natP p ∈ natL l := List.mem_map.2 ⟨p, hp, rfl⟩
    have h3 := ok.good _ h2
    refine ⟨p.1.toNat, p.2.toNat, ?_, h3.1, h3.2, ok.ne _ h2, ?_⟩
    · rw [Int.toNat_of_nonneg h1.1, Int.toNat_of_nonneg h1.2]
    · exact (hk _ _).2 ⟨_, rfl, p.2.toNat, h2, .refl⟩
  · obtain ⟨c, rfl, h⟩ := (hk _ _).1 hb
    have := h.lt ok.good
    exact ⟨c, rfl, this.2, this.1⟩
  · obtain ⟨x, hx, h1⟩ := (hk _ _).1 hb
    obtain ⟨y, rfl, h2⟩ := (hk _ _).1 hc
    cases Int.ofNat_inj.1 hx
    exact (hk _ _).2 ⟨y, rfl, h1.trans h2.path⟩
theorem closeW_more {n : Int} {l : List (Int × Int)} (hc : chk n l = 0) {a b : Nat} (hb : (b : Int) ∈ (closeAll n l).getD a default) (hab : a ≠ b) (h24 : l.length < 24) :
    chk n (l ++ [((a : Int), (b : Int))]) = 0 ∧ closeAll n (l ++ [((a : Int), (b : Int))]) = closeAll n l := by
  have ok := chk_ok hc
  have cw := closeW hc
  obtain ⟨c, h1, h2, h3⟩ := cw.pt a b hb
  cases Int.ofNat_inj.1 h1
  have n0 := ok.n0
  have h0 : chk n (l ++ [((a : Int), (b : Int))]) = 0 := by
    rw [chk_iff] at hc ⊢
    refine ⟨hc.1, by simp; omega, fun p hp => ?_⟩
    rcases List.mem_append.1 hp with hp | hp
    · exact hc.2.2 p hp
    · rw [List.mem_singleton.1 hp, lineErr_iff]
      exact ⟨⟨by simp, by simp; omega⟩, ⟨by simp, by simp; omega⟩, by simp; omega⟩
  refine ⟨h0, ?_⟩
  have ok2 := chk_ok h0
  have hb' := hb
  unfold closeAll
  rw [if_pos h0, if_pos hc]
  have e : natL (l ++ [((a : Int), (b : Int))]) = natL l ++ [(a, b)] := by simp [natL, natP]
  have hg2 := ok2.good
  rw [e] at hg2 ⊢
  have hp : Path1 (natL l) a b := by
    have e : closeAll n l = (war n.toNat (natL l)).map ptsI := if_pos hc
    rw [e, mapP_get] at hb
    exact (war_bit ok.good _ _).1 ((ptsI_mem _ _).1 hb).2
  have hw : war n.toNat (natL l ++ [(a, b)]) = war n.toNat (natL l) := by
    refine List.ext_getElem (by rw [war_len hg2, war_len ok.good]) fun i h1 h2 => ?_
    apply bits_eq
    intro j
    have g1 := war_bit hg2 i j
    have g2 := war_bit ok.good i j
    rw [List.getD_eq_getElem?_getD, List.getElem?_eq_getElem h1, Option.getD_some] at g1
    rw [List.getD_eq_getElem?_getD, List.getElem?_eq_getElem h2, Option.getD_some] at g2
    rw [Bool.eq_iff_iff, g1, g2]
    exact path1_more hp
  rw [hw]
theorem lCloseWays_spec (n : Int) (l : List (Int × Int)) (_hn : -9223372036854775808 ≤ n ∧ n ≤ 9223372036854775807) (hpre : l.length < 2 ^ 43) : FnD Try.prog 7 [I .i64 n, .l (l.map lnD)] (Bo true) := by
  have hl62 : l.length < 2 ^ 62 := by omega
  refine FnD.go Try.func7 rfl rfl Try.results7 Try.ntmps7 ?_
  simp (implicitDefEqProofs := false) (dsimp := false) only [↓aw_seq, ↓aw_reg, ↓Qseq_n, ↓ops_nil, ↓ops_cons, ↓eval_bool, ↓eval_func, ↓put_some, ↓op_assign, ↓op_call, isD_d, ↓fnK_f, ↓call_H, ↓callK_H, ↓allT_nil, ↓td_d, List.set_cons_zero, List.set_cons_succ, List.cons_append, List.nil_append, List.append_nil, List.map_cons, List.map_nil, List.length_cons, List.length_nil, List.all_nil, Bool.and_self, Nat.reduceAdd, Nat.reduceSub, Nat.reduceMul, Nat.zero_add, List.replicate, evK_go, reduceIte, Nat.reduceEqDiff, Nat.reduceLT, and_self, Int.zero_add]
  simp (implicitDefEqProofs := false) (dsimp := false) only [cfact_call, call_call, hl62, eval_nilI, ↓er_neq, ↓cdK_false, ↓cdK_not, ↓nthK_H, ↓nthH_zero, ↓nthH_succ, ↓aw_cond, ↓aw_seq, ↓aw_skip, ↓aw_reg, ↓Qseq_n, ↓ops_nil, ↓ops_cons, ↓eval_tmp, ↓eval_func, ↓put_some, ↓bK_b, ↓tK_t, ↓op_move, ↓op_assign, ↓op_bin, ↓op_not, ↓op_extract, ↓op_call, isD_d, ↓fnK_f, ↓call_H, ↓callK_H, ↓allT_nil, ↓allT_cons, ↓td_d, List.getD_cons_zero, List.getD_cons_succ, List.set_cons_zero, List.set_cons_succ, List.append_nil, List.all_cons, List.all_nil, Bool.true_and, Bool.and_self, Bool.true_or, Nat.reduceAdd, Nat.reduceSub, Nat.reduceMul, evK_go, reduceIte, Bool.not_true, Nat.reduceEqDiff, Nat.reduceLT, and_self, true_and]
  refine OrH.l (OrH.l (OrH.l (OrH.l (cdK_dec (fun hc => ?_) (fun hc => ?_)))))
  rotate_left
  · have e1 : closeAll n l = [] := if_neg hc
    simp (implicitDefEqProofs := false) (dsimp := false) only [e1, ↓aw_seq, ↓aw_ret, ↓aw_reg, ↓Qseq_n, ↓Qseq_r, ↓Qret_r, ↓ops_nil, ↓ops_cons, ↓eval_tmp, ↓eval_int, ↓put_some, ↓lenK_l, ↓binE_i, ↓bi_eql, ↓op_move, ↓op_assign, ↓op_bin, ↓op_len, ↓td_d, ↓ret_1, ↓sl44, List.getD_cons_zero, List.getD_cons_succ, List.set_cons_zero, List.set_cons_succ, List.map_nil, List.length_nil, Nat.reduceAdd, Nat.reduceSub, Nat.reduceMul, evK_go, reduceIte, decide_true, Nat.reduceEqDiff, Nat.reduceLT, Int.cast_ofNat_Int]
  have cw := closeW hc
  have more : ∀ a b : Nat, (b : Int) ∈ (closeAll n l).getD a default → a ≠ b → l.length < 24 → chk n (l ++ [((a : Int), (b : Int))]) = 0 ∧ closeAll n (l ++ [((a : Int), (b : Int))]) = closeAll n l := fun a b h1 h2 h3 => closeW_more hc h1 h2 h3
  generalize hM : closeAll n l = M at cw more ⊢
  generalize n.toNat = m at cw
  have e0 := cw.n0
  have h8 := cw.hi
  have hML : ((M.length : Nat) : Int) = n := by rw [cw.len, e0]
  simp (implicitDefEqProofs := false) (dsimp := false) only [lines_call, hc, hl62, hML, ↓cdK_false, ↓gdK_f, ↓gval_mk, ↓gvL_zero, ↓gvL_succ, ↓aw_cond, ↓aw_seq, ↓aw_block, ↓aw_skip, ↓aw_loop, ↓aw_reg, ↓Qseq_n, ↓ops_nil, ↓ops_cons, ↓ops_guard, ↓eval_tmp, ↓eval_int, ↓eval_func, ↓put_some, ↓bK_b, ↓lenK_l, ↓binE_i, ↓bi_neq, ↓op_move, ↓op_assign, ↓op_pick, ↓op_bin, ↓op_len, ↓op_call, isD_d, ↓fnK_f, ↓call_H, ↓callK_H, ↓allT_nil, ↓allT_cons, ↓td_d, ↓st_tm, ↓sl44, List.getD_cons_zero, List.getD_cons_succ, List.set_cons_zero, List.set_cons_succ, List.append_nil, List.length_map, List.all_cons, List.all_nil, Bool.true_and, Bool.and_self, Bool.true_or, Nat.reduceAdd, Nat.reduceSub, Nat.reduceMul, evK_go, reduceIte, decide_true, Bool.not_true, Nat.reduceEqDiff, Nat.reduceLT, and_self, true_and]
  refine OrH.l (OrH.l ?_)
  refine loopW (fun k : Nat => { tm := slots 139 [(0, .d (I .i64 n)), (1, .d (.l (l.map lnD))), (6, .d (.l (M.map liD))), (8, .d (I .i64 k))], bx := [], rw := [] })
    (fun k => k ≤ l.length) (fun k => l.length - k) 0 (by simp) ?_ ?_
  · refine Wkn.of [] [] ?_
    simp (implicitDefEqProofs := false) (dsimp := false) only [List.set_cons_zero, List.set_cons_succ, Bool.and_self, Nat.reduceAdd, Nat.reduceSub, Nat.reduceMul, List.replicate, evK_go, reduceIte, Nat.reduceEqDiff, Nat.reduceLT, and_self, List.foldl_cons, List.foldl_nil, Int.cast_ofNat_Int, slots, wkL_nil, wkL_cons, wkB_nil, wkR_nil, wkV_j, wkV_d, frz_d, reduceCtorEq]
  · intro k hk
    simp (implicitDefEqProofs := false) (dsimp := false) only [slots, ↓aw_cond, ↓aw_seq, ↓aw_reg, ↓Qseq_n, ↓ops_nil, ↓ops_cons, ↓eval_tmp, ↓put_some, ↓bK_b, ↓lenK_l, ↓binE_i, ↓bi_lss, ↓op_move, ↓op_bin, ↓op_len, ↓sl22, List.getD_cons_zero, List.getD_cons_succ, List.set_cons_zero, List.set_cons_succ, List.length_map, Nat.reduceAdd, Nat.reduceSub, Nat.reduceMul, List.replicate, evK_go, reduceIte, Nat.reduceEqDiff, Nat.reduceLT, List.foldl_cons, List.foldl_nil, Int.ofNat_lt]
    refine cdK_dec (fun h => ?_) (fun h => ?_)
    · obtain ⟨x, y, hxy, hx, hy, hne, hmem⟩ := cw.line _ (getD_mem h)
      have hx' : x < M.length := by rw [cw.len]; exact hx
      have hs := cw.sz x
      have hs' : (M.getD x default).length < 2 ^ 62 := by omega
      simp (implicitDefEqProofs := false) (dsimp := false) only [h, lnD, hxy, hx', liD, hasR_callQ, hs', hmem, ↓cdK_false, ↓atK_H, ↓atH_map, ↓aw_cond, ↓aw_seq, ↓aw_block, ↓aw_skip, ↓aw_reg, ↓aw_draw, ↓Qseq_n, ↓Qblk_n, ↓ops_nil, ↓ops_cons, ↓eval_tmp, ↓eval_int, ↓eval_func, ↓put_some, ↓bK_b, ↓iK_i, ↓ev_move, ↓ev_load, ↓ev_not, ↓ev_fa, ↓ev_ia, ↓binE_i, ↓bi_add, ↓in_i64, ↓ldK_q, ↓faK_q, ↓iaK_l, ↓op_move, ↓op_assign, ↓op_bin, isD_d, ↓fnK_f, ↓callKQ_H, ↓allT_nil, ↓allT_cons, ↓td_d, ↓draw_H, ↓h_nil, ↓h_cons, ↓ldH_n, ↓q_call, ↓q_move, ↓q_load, ↓q_un, ↓q_fa, ↓q_ia, ↓il_move, ↓il_load, ↓il_un, ↓il_fa, ↓il_ia, ↓il_call, ↓cells_s, ↓cells_l, ↓hd_cons, ↓ty3, ↓sl22, ↓ty28, ↓ty35, ↓fd35_0, ↓fd35_1, ↓sl44, List.getD_cons_zero, List.getD_cons_succ, List.set_cons_zero, List.set_cons_succ, List.append_nil, List.length_cons, List.length_nil, List.all_cons, List.all_nil, Bool.true_and, Bool.and_self, Bool.true_or, Nat.reduceAdd, Nat.reduceSub, Nat.reduceMul, Nat.zero_add, Int.toNat_natCast, evK_go, reduceIte, decide_true, Bool.not_true, Nat.reduceEqDiff, Nat.reduceLT, and_self, true_and, Int.zero_add, List.drop_zero, List.drop_succ_cons, Int.natCast_nonneg]
      refine OrH.l ⟨DrawH.of follows_mixed (by kernel_rfl), ?_⟩
      (repeat refine OrH.l ?_)
      refine ⟨by omega, k + 1, by omega, by omega, ?_⟩
      refine Wkn.of [] [] ?_; simp (implicitDefEqProofs := false) (dsimp := false) only [List.set_cons_zero, List.set_cons_succ, Bool.and_self, Nat.reduceAdd, Nat.reduceSub, Nat.reduceMul, List.replicate, evK_go, reduceIte, Nat.reduceEqDiff, Nat.reduceLT, and_self, List.foldl_cons, List.foldl_nil, Int.cast_ofNat_Int, Int.natCast_add, slots, wkL_nil, wkL_cons, wkB_nil, wkR_nil, wkV_j, wkV_d, frz_d, reduceCtorEq]
    · simp (implicitDefEqProofs := false) (dsimp := false) only [↓aw_seq, ↓aw_block, ↓aw_exit, ↓aw_loop, ↓aw_reg, ↓Qseq_n, ↓Qseq_x, ↓Qblk_x, ↓ops_nil, ↓ops_cons, ↓eval_int, ↓put_some, ↓op_assign, List.set_cons_zero, List.set_cons_succ, Nat.reduceAdd, Nat.reduceSub, Nat.reduceMul, evK_go, reduceIte, Nat.reduceEqDiff, Nat.reduceLT]
      refine loopW (fun a : Nat => { tm := slots 139 [(0, .d (I .i64 n)), (1, .d (.l (l.map lnD))), (6, .d (.l (M.map liD))), (9, .d (I .i64 a))], bx := [], rw := [] })
        (fun a => a ≤ m) (fun a => m - a) 0 (by simp) ?_ ?_
      · refine Wkn.of [] [] ?_; simp (implicitDefEqProofs := false) (dsimp := false) only [List.set_cons_zero, List.set_cons_succ, Bool.and_self, Nat.reduceAdd, Nat.reduceSub, Nat.reduceMul, List.replicate, evK_go, reduceIte, Nat.reduceEqDiff, Nat.reduceLT, and_self, List.foldl_cons, List.foldl_nil, Int.cast_ofNat_Int, slots, wkL_nil, wkL_cons, wkB_nil, wkR_nil, wkV_j, wkV_d, frz_d, reduceCtorEq]
      · intro a ha
        simp (implicitDefEqProofs := false) (dsimp := false) only [slots, ↓aw_cond, ↓aw_seq, ↓aw_reg, ↓Qseq_n, ↓ops_nil, ↓ops_cons, ↓eval_tmp, ↓put_some, ↓bK_b, ↓binE_i, ↓bi_lss, ↓op_move, ↓op_bin, List.getD_cons_zero, List.getD_cons_succ, List.set_cons_zero, List.set_cons_succ, Nat.reduceAdd, Nat.reduceSub, Nat.reduceMul, List.replicate, evK_go, reduceIte, Nat.reduceEqDiff, Nat.reduceLT, List.foldl_cons, List.foldl_nil]
        refine cdK_dec (fun h1 => ?_) (fun h1 => ?_)
        · have ham : a < m := by omega
          have haM : a < M.length := by rw [cw.len]; exact ham
          have hsz := cw.sz a
          simp (implicitDefEqProofs := false) (dsimp := false) only [↓aw_seq, ↓aw_block, ↓aw_skip, ↓aw_loop, ↓aw_reg, ↓Qseq_n, ↓ops_nil, ↓ops_cons, ↓eval_int, ↓put_some, ↓op_assign, List.set_cons_zero, List.set_cons_succ, Nat.reduceAdd, Nat.reduceSub, Nat.reduceMul, evK_go, reduceIte, Nat.reduceEqDiff, Nat.reduceLT]
          refine loopW (fun i : Nat => { tm := slots 139 [(0, .d (I .i64 n)), (1, .d (.l (l.map lnD))), (6, .d (.l (M.map liD))), (9, .d (I .i64 a)), (10, .d (I .i64 i))], bx := [], rw := [] })
            (fun i => i ≤ (M.getD a default).length) (fun i => (M.getD a default).length - i) 0 (by simp) ?_ ?_
          · refine Wkn.of [] [] ?_; simp (implicitDefEqProofs := false) (dsimp := false) only [List.set_cons_zero, List.set_cons_succ, Bool.and_self, Nat.reduceAdd, Nat.reduceSub, Nat.reduceMul, List.replicate, evK_go, reduceIte, Nat.reduceEqDiff, Nat.reduceLT, and_self, List.foldl_cons, List.foldl_nil, Int.cast_ofNat_Int, slots, wkL_nil, wkL_cons, wkB_nil, wkR_nil, wkV_j, wkV_d, frz_d, reduceCtorEq]
          · intro i hi
            simp (implicitDefEqProofs := false) (dsimp := false) only [slots, haM, liD, ↓atK_H, ↓atH_map, ↓aw_cond, ↓aw_seq, ↓aw_reg, ↓Qseq_n, ↓ops_nil, ↓ops_cons, ↓eval_tmp, ↓put_some, ↓bK_b, ↓iK_i, ↓lenK_l, ↓binE_i, ↓bi_lss, ↓ldK_q, ↓iaK_l, ↓op_move, ↓op_load, ↓op_bin, ↓op_ia, ↓op_len, ↓cells_l, ↓hd_cons, ↓ty28, ↓sl28, ↓sl44, List.getD_cons_zero, List.getD_cons_succ, List.set_cons_zero, List.set_cons_succ, List.length_cons, List.length_nil, List.length_map, Bool.true_and, Nat.reduceAdd, Nat.reduceSub, Nat.reduceMul, Nat.zero_add, Int.toNat_natCast, List.replicate, evK_go, reduceIte, Nat.reduceEqDiff, Nat.reduceLT, true_and, Int.zero_add, List.foldl_cons, List.foldl_nil, Int.ofNat_lt, Int.natCast_nonneg]
            refine cdK_dec (fun h2 => ?_) (fun h2 => ?_)
            · have hb := getD_mem h2
              obtain ⟨b, hb1, hb2, _⟩ := cw.pt a _ hb
              have hin : inB (b : Int) 0 (n - 1) = true := inB_iff.2 ⟨by omega, by omega⟩
              have hbM : b < M.length := by rw [cw.len]; exact hb2
              have hszb := cw.sz b
              rw [hb1] at hb
              simp (implicitDefEqProofs := false) (dsimp := false) only [haM, h2, hb1, liD, in2_call, hin, ↓cdK_false, ↓atK_H, ↓atH_map, ↓aw_cond, ↓aw_seq, ↓aw_block, ↓aw_skip, ↓aw_loop, ↓aw_reg, ↓Qseq_n, ↓ops_nil, ↓ops_cons, ↓eval_tmp, ↓eval_int, ↓eval_func, ↓put_some, ↓bK_b, ↓iK_i, ↓binE_i, ↓bi_sub, ↓in_i64, ↓ldK_q, ↓iaK_l, ↓op_move, ↓op_assign, ↓op_load, ↓op_bin, ↓op_not, ↓op_ia, ↓op_call, isD_d, ↓fnK_f, ↓call_H, ↓callK_H, ↓allT_nil, ↓allT_cons, ↓td_d, ↓cells_c, ↓cells_l, ↓hd_cons, ↓ty3, ↓ty28, ↓sl28, ↓sl44, List.getD_cons_zero, List.getD_cons_succ, List.set_cons_zero, List.set_cons_succ, List.append_nil, List.length_cons, List.length_nil, List.all_cons, List.all_nil, Bool.true_and, Bool.and_self, Bool.true_or, Nat.reduceAdd, Nat.reduceSub, Nat.reduceMul, Nat.zero_add, Int.toNat_natCast, evK_go, reduceIte, decide_true, Bool.not_true, Nat.reduceEqDiff, Nat.reduceLT, and_self, true_and, Int.zero_add, Int.natCast_nonneg]
              refine ⟨by omega, OrH.l (OrH.l ?_)⟩
              refine loopW (fun j : Nat => { tm := slots 139 [(0, .d (I .i64 n)), (1, .d (.l (l.map lnD))), (6, .d (.l (M.map liD))), (9, .d (I .i64 a)), (10, .d (I .i64 i)), (11, .d (I .i64 b)), (12, .d (I .i64 j))], bx := [], rw := [] })
                (fun j => j ≤ (M.getD b default).length) (fun j => (M.getD b default).length - j) 0 (by simp) ?_ ?_
              · refine Wkn.of [] [] ?_; simp (implicitDefEqProofs := false) (dsimp := false) only [List.set_cons_zero, List.set_cons_succ, Bool.and_self, Nat.reduceAdd, Nat.reduceSub, Nat.reduceMul, List.replicate, evK_go, reduceIte, Nat.reduceEqDiff, Nat.reduceLT, and_self, List.foldl_cons, List.foldl_nil, Int.cast_ofNat_Int, slots, wkL_nil, wkL_cons, wkB_nil, wkR_nil, wkV_j, wkV_d, frz_d, reduceCtorEq]
              · intro j hj
                simp (implicitDefEqProofs := false) (dsimp := false) only [slots, hbM, liD, ↓atK_H, ↓atH_map, ↓aw_cond, ↓aw_seq, ↓aw_reg, ↓Qseq_n, ↓ops_nil, ↓ops_cons, ↓eval_tmp, ↓put_some, ↓bK_b, ↓iK_i, ↓lenK_l, ↓binE_i, ↓bi_lss, ↓ldK_q, ↓iaK_l, ↓op_move, ↓op_load, ↓op_bin, ↓op_ia, ↓op_len, ↓cells_l, ↓hd_cons, ↓ty28, ↓sl28, ↓sl44, List.getD_cons_zero, List.getD_cons_succ, List.set_cons_zero, List.set_cons_succ, List.length_cons, List.length_nil, List.length_map, Bool.true_and, Nat.reduceAdd, Nat.reduceSub, Nat.reduceMul, Nat.zero_add, Int.toNat_natCast, List.replicate, evK_go, reduceIte, Nat.reduceEqDiff, Nat.reduceLT, true_and, Int.zero_add, List.foldl_cons, List.foldl_nil, Int.ofNat_lt, Int.natCast_nonneg]
                refine cdK_dec (fun h3 => ?_) (fun h3 => ?_)
                · have hjm := cw.tr a b _ hb (getD_mem h3)
                  have hs1 : (M.getD a default).length < 2 ^ 62 := by omega
                  simp (implicitDefEqProofs := false) (dsimp := false) only [haM, hbM, h3, liD, hasR_callQ, hs1, hjm, ↓cdK_false, ↓atK_H, ↓atH_map, ↓aw_cond, ↓aw_seq, ↓aw_block, ↓aw_skip, ↓aw_reg, ↓aw_draw, ↓Qseq_n, ↓Qblk_n, ↓ops_nil, ↓ops_cons, ↓eval_tmp, ↓eval_int, ↓eval_func, ↓put_some, ↓bK_b, ↓iK_i, ↓ev_move, ↓ev_load, ↓ev_not, ↓ev_ia, ↓binE_i, ↓bi_add, ↓in_i64, ↓ldK_q, ↓iaK_l, ↓op_move, ↓op_assign, ↓op_bin, isD_d, ↓fnK_f, ↓callKQ_H, ↓allT_nil, ↓allT_cons, ↓td_d, ↓draw_H, ↓h_nil, ↓h_cons, ↓ldH_n, ↓q_call, ↓q_move, ↓q_load, ↓q_un, ↓q_ia, ↓il_move, ↓il_load, ↓il_un, ↓il_ia, ↓il_call, ↓cells_c, ↓cells_l, ↓hd_cons, ↓ty3, ↓ty28, ↓sl28, ↓sl44, List.getD_cons_zero, List.getD_cons_succ, List.set_cons_zero, List.set_cons_succ, List.append_nil, List.length_cons, List.length_nil, List.all_cons, List.all_nil, Bool.true_and, Bool.and_self, Bool.true_or, Nat.reduceAdd, Nat.reduceSub, Nat.reduceMul, Nat.zero_add, Int.toNat_natCast, evK_go, reduceIte, decide_true, Bool.not_true, Nat.reduceEqDiff, Nat.reduceLT, and_self, true_and, Int.zero_add, Int.natCast_nonneg]
                  refine OrH.l ⟨DrawH.of follows_mixed (by kernel_rfl), ?_⟩
                  (repeat refine OrH.l ?_)
                  refine ⟨by omega, j + 1, by omega, by omega, ?_⟩
                  refine Wkn.of [] [] ?_; simp (implicitDefEqProofs := false) (dsimp := false) only [List.set_cons_zero, List.set_cons_succ, Bool.and_self, Nat.reduceAdd, Nat.reduceSub, Nat.reduceMul, List.replicate, evK_go, reduceIte, Nat.reduceEqDiff, Nat.reduceLT, and_self, List.foldl_cons, List.foldl_nil, Int.cast_ofNat_Int, Int.natCast_add, slots, wkL_nil, wkL_cons, wkB_nil, wkR_nil, wkV_j, wkV_d, frz_d, reduceCtorEq]
                · simp (implicitDefEqProofs := false) (dsimp := false) only [↓gdK_t, ↓gval_mk, ↓gvL_zero, ↓gvL_succ, ↓aw_seq, ↓aw_exit, ↓aw_ret, ↓aw_reg, ↓Qseq_n, ↓Qseq_x, ↓Qblk_n, ↓Qblk_x, ↓Qret_r, ↓ops_nil, ↓ops_cons, ↓ops_guard, ↓eval_tmp, ↓eval_int, ↓eval_bool, ↓put_some, ↓lenK_l, ↓binE_i, ↓bi_add, ↓bi_lss, ↓in_i64, ↓op_move, ↓op_assign, ↓op_bin, ↓op_len, ↓td_d, ↓ret_1, ↓st_tm, ↓sl22, List.getD_cons_zero, List.getD_cons_succ, List.set_cons_zero, List.set_cons_succ, List.length_map, Nat.reduceAdd, Nat.reduceSub, Nat.reduceMul, evK_go, reduceIte, Nat.reduceEqDiff, Nat.reduceLT]
                  refine cdK_dec (fun h4 => ?_) (fun h4 => ?_)
                  · simp (implicitDefEqProofs := false) (dsimp := false) only [h4, ↓cdK_true, ↓cdK_not, ↓gdK_t, ↓gval_mk, ↓gvL_zero, ↓gvL_succ, ↓aw_cond, ↓Qseq_n, ↓ops_nil, ↓ops_cons, ↓ops_guard, ↓eval_tmp, ↓put_some, ↓bK_b, ↓binE_i, ↓bi_neq, ↓op_move, ↓op_pick, ↓op_bin, ↓st_tm, List.getD_cons_zero, List.getD_cons_succ, List.set_cons_zero, List.set_cons_succ, Nat.reduceAdd, Nat.reduceSub, Nat.reduceMul, evK_go, reduceIte, decide_true, Nat.reduceEqDiff, Nat.reduceLT, Int.natCast_inj]
                    refine cdK_dec (fun h5 => ?_) (fun h5 => ?_)
                    · subst h5
                      simp (implicitDefEqProofs := false) (dsimp := false) only [↓aw_skip, ↓aw_reg, ↓Qseq_n, ↓Qblk_n, ↓ops_nil, ↓ops_cons, ↓eval_tmp, ↓eval_int, ↓put_some, ↓binE_i, ↓bi_add, ↓in_i64, ↓op_move, ↓op_assign, ↓op_bin, List.getD_cons_zero, List.getD_cons_succ, List.set_cons_zero, List.set_cons_succ, Nat.reduceAdd, Nat.reduceSub, Nat.reduceMul, evK_go, reduceIte, decide_true, Bool.not_true, Nat.reduceEqDiff, Nat.reduceLT]
                      refine ⟨by omega, i + 1, by omega, by omega, ?_⟩
                      refine Wkn.of [] [] ?_; simp (implicitDefEqProofs := false) (dsimp := false) only [List.set_cons_zero, List.set_cons_succ, Bool.and_self, Nat.reduceAdd, Nat.reduceSub, Nat.reduceMul, List.replicate, evK_go, reduceIte, Nat.reduceEqDiff, Nat.reduceLT, and_self, List.foldl_cons, List.foldl_nil, Int.cast_ofNat_Int, Int.natCast_add, slots, wkL_nil, wkL_cons, wkB_nil, wkR_nil, wkV_j, wkV_d, frz_d, reduceCtorEq]
                    · simp (implicitDefEqProofs := false) (dsimp := false) only [h5, ↓optK_some, ↓rwK_mk_, ↓aw_seq, ↓aw_reg, ↓Qseq_n, ↓ops_nil, ↓ops_cons, ↓eval_tmp, ↓eval_nil, ↓eval_func, ↓put_some, ↓dK_d, ↓op_move, ↓op_assign, ↓op_build, ↓op_append, ↓op_call, isD_d, isD_o, ↓fnK_f, ↓call_H, ↓callK_H, ↓allT_nil, ↓allT_cons, ↓allD_nil, ↓allD_cons, ↓td_d, ↓td_o, ↓addRow_mk, ↓app_mk, ↓st_rw, ↓row_sz, ↓row_xs, kill_d, kill_j, kill_nl, kill_o, ↓cells_c, ↓cells_s, ↓one_i, ↓ap_, ↓ap_nl, ↓ap_o, ↓src_l, ↓bs_, ↓op_bs, ↓bsL_f, ↓stored_mk, ↓sl_nil, ↓sl_cons, ↓sT_move, ↓sT_assign, ↓sT_extract, ↓sT_build, ↓sT_bs, ↓sT_call, ↓vsz_agg, ↓inO_1, ↓fm_nil, ↓fm_cons, ↓sl22, ↓ty35, ↓zb35, ↓bd35, List.getD_cons_zero, List.getD_cons_succ, List.set_cons_zero, List.set_cons_succ, List.cons_append, List.nil_append, List.append_nil, List.map_cons, List.map_nil, List.length_cons, List.length_nil, List.length_map, List.all_cons, List.all_nil, Bool.and_true, Bool.true_and, Bool.and_self, Bool.and_false, Bool.or_false, Nat.reduceAdd, Nat.reduceSub, Nat.reduceMul, Nat.zero_add, evK_go, reduceIte, decide_false, Bool.not_false, Nat.reduceEqDiff, Nat.reduceLT, and_self, true_and, and_true, Int.zero_add, List.drop_zero]
                      have hm62 : (l ++ [((a : Int), (b : Int))]).length < 2 ^ 62 := by simp; omega
                      obtain ⟨hc2, hM2⟩ := more a b hb h5 (by omega)
                      refine ⟨rfl, fun y hy => ?_, ⟨by omega, by omega⟩, ⟨rfl, by decide⟩, rfl, ⟨fun _ => trivial, by omega, by omega⟩, OrH.r (Loud.frz { tm := slots 139 [(0, .d (I .i64 n)), (1, .d (.l (l.map lnD))), (6, .d (.l (M.map liD))), (9, .d (I .i64 a)), (10, .d (I .i64 i)), (11, .d (I .i64 b)), (121, .d (I .i64 n)), (127, .d (.l ((l ++ [((a : Int), (b : Int))]).map lnD)))], bx := [], rw := [] } (Wkn.of [] [] ?_) ?_)⟩
                      · obtain ⟨q, _, rfl⟩ := List.mem_map.1 hy
                        exact ⟨rfl, rfl⟩
                      · have e1 : List.take (l.length + 1) (l.map lnD ++ [D.s [I .i64 a, I .i64 b]]) = (l ++ [((a : Int), (b : Int))]).map lnD := by
                          rw [List.map_append]
                          exact List.take_of_length_le (by simp)
                        simp (implicitDefEqProofs := false) (dsimp := false) only [e1, ↓optK_some, ↓row_xs, List.getD_cons_zero, List.set_cons_zero, List.set_cons_succ, Bool.and_self, Nat.reduceAdd, Nat.reduceSub, Nat.reduceMul, List.replicate, evK_go, reduceIte, Nat.reduceEqDiff, Nat.reduceLT, and_self, not_false_eq_true, List.drop_zero, List.foldl_cons, List.foldl_nil, slots, wkL_nil, wkL_cons, wkB_nil, wkR_nil, wkV_j, wkV_d, frz_d, frz_o, dl_eq, reduceCtorEq, List.not_mem_nil]
                      · have hM62 : M.length < 2 ^ 62 ∧ ∀ x ∈ M, x.length < 2 ^ 62 := by
                          refine ⟨by rw [cw.len]; omega, fun x hx => ?_⟩
                          obtain ⟨q, hq, rfl⟩ := List.mem_iff_getElem.1 hx
                          have := cw.sz q
                          rw [List.getD_eq_getElem?_getD, List.getElem?_eq_getElem hq, Option.getD_some] at this
                          omega
                        simp (implicitDefEqProofs := false) (dsimp := false) only [slots, call_call, hm62, hc2, hM2, erows_call, eval_nilI, ↓er_neq, ↓cdK_false, ↓gdK_f, ↓gval_mk, ↓gvL_zero, ↓gvL_succ, ↓nthK_H, ↓nthH_zero, ↓nthH_succ, ↓aw_cond, ↓aw_seq, ↓aw_skip, ↓aw_reg, ↓Qseq_n, ↓Qblk_n, ↓ops_nil, ↓ops_cons, ↓ops_guard, ↓eval_tmp, ↓eval_int, ↓eval_func, ↓put_some, ↓bK_b, ↓tK_t, ↓binE_i, ↓bi_add, ↓in_i64, ↓op_move, ↓op_assign, ↓op_pick, ↓op_bin, ↓op_not, ↓op_extract, ↓op_call, isD_d, ↓fnK_f, ↓call_H, ↓callK_H, ↓allT_nil, ↓allT_cons, ↓td_d, ↓st_tm, List.getD_cons_zero, List.getD_cons_succ, List.set_cons_zero, List.set_cons_succ, List.append_nil, List.all_cons, List.all_nil, Bool.true_and, Bool.and_self, Bool.true_or, Nat.reduceAdd, Nat.reduceSub, Nat.reduceMul, List.replicate, evK_go, reduceIte, decide_true, Bool.not_true, Nat.reduceEqDiff, Nat.reduceLT, and_self, true_and, List.foldl_cons, List.foldl_nil]
                        (repeat refine OrH.l ?_)
                        refine ⟨hM62, ?_⟩
                        (repeat refine OrH.l ?_)
                        refine ⟨by omega, i + 1, by omega, by omega, ?_⟩
                        refine Wkn.of [] [] ?_; simp (implicitDefEqProofs := false) (dsimp := false) only [Bool.and_self, Nat.reduceAdd, Nat.reduceSub, Nat.reduceMul, evK_go, reduceIte, Nat.reduceEqDiff, Nat.reduceLT, and_self, Int.cast_ofNat_Int, Int.natCast_add, slots, wkL_nil, wkL_cons, wkB_nil, wkR_nil, wkV_j, wkV_d, frz_d, reduceCtorEq]
                  · simp (implicitDefEqProofs := false) (dsimp := false) only [h4, ↓cdK_false, ↓gdK_t, ↓gval_mk, ↓gvL_zero, ↓gvL_succ, ↓aw_cond, ↓aw_skip, ↓aw_reg, ↓Qseq_n, ↓Qblk_n, ↓ops_nil, ↓ops_cons, ↓ops_guard, ↓eval_tmp, ↓eval_int, ↓eval_bool, ↓put_some, ↓bK_b, ↓binE_i, ↓bi_add, ↓in_i64, ↓op_move, ↓op_assign, ↓op_pick, ↓op_bin, ↓st_tm, List.getD_cons_zero, List.getD_cons_succ, List.set_cons_zero, List.set_cons_succ, Nat.reduceAdd, Nat.reduceSub, Nat.reduceMul, evK_go, reduceIte, decide_false, Nat.reduceEqDiff, Nat.reduceLT]
                    refine ⟨by omega, i + 1, by omega, by omega, ?_⟩
                    refine Wkn.of [] [] ?_; simp (implicitDefEqProofs := false) (dsimp := false) only [List.set_cons_zero, List.set_cons_succ, Bool.and_self, Nat.reduceAdd, Nat.reduceSub, Nat.reduceMul, List.replicate, evK_go, reduceIte, Nat.reduceEqDiff, Nat.reduceLT, and_self, List.foldl_cons, List.foldl_nil, Int.cast_ofNat_Int, Int.natCast_add, slots, wkL_nil, wkL_cons, wkB_nil, wkR_nil, wkV_j, wkV_d, frz_d, reduceCtorEq]
            · simp (implicitDefEqProofs := false) (dsimp := false) only [↓aw_seq, ↓aw_exit, ↓aw_ret, ↓aw_reg, ↓Qseq_n, ↓Qseq_x, ↓Qblk_n, ↓Qblk_x, ↓Qret_r, ↓ops_nil, ↓ops_cons, ↓eval_tmp, ↓eval_int, ↓eval_bool, ↓put_some, ↓binE_i, ↓bi_add, ↓in_i64, ↓op_move, ↓op_assign, ↓op_bin, ↓td_d, ↓ret_1, List.getD_cons_zero, List.getD_cons_succ, List.set_cons_zero, List.set_cons_succ, Nat.reduceAdd, Nat.reduceSub, Nat.reduceMul, evK_go, reduceIte, Nat.reduceEqDiff, Nat.reduceLT]
              refine ⟨by omega, a + 1, by omega, by omega, ?_⟩
              refine Wkn.of [] [] ?_; simp (implicitDefEqProofs := false) (dsimp := false) only [List.set_cons_zero, List.set_cons_succ, Bool.and_self, Nat.reduceAdd, Nat.reduceSub, Nat.reduceMul, List.replicate, evK_go, reduceIte, Nat.reduceEqDiff, Nat.reduceLT, and_self, List.foldl_cons, List.foldl_nil, Int.cast_ofNat_Int, Int.natCast_add, slots, wkL_nil, wkL_cons, wkB_nil, wkR_nil, wkV_j, wkV_d, frz_d, reduceCtorEq]
        · simp (implicitDefEqProofs := false) (dsimp := false) only [↓aw_seq, ↓aw_exit, ↓aw_ret, ↓aw_reg, ↓Qseq_n, ↓Qseq_x, ↓Qblk_x, ↓Qret_r, ↓ops_nil, ↓ops_cons, ↓eval_tmp, ↓eval_bool, ↓put_some, ↓op_assign, ↓td_d, ↓ret_1, List.getD_cons_zero, List.getD_cons_succ, List.set_cons_zero, List.set_cons_succ, Nat.reduceAdd, Nat.reduceSub, Nat.reduceMul, evK_go, reduceIte, Nat.reduceEqDiff, Nat.reduceLT]
end Go.Proofs

namespace Go.Proofs
open Go.Aw
set_option linter.unusedSimpArgs false
set_option maxRecDepth 10000
theorem close_mem {n : Int} {l : List (Int × Int)} (hc : chk n l = 0) (i j : Nat) : (j : Int) ∈ (closeAll n l).getD i default ↔ Path1 (natL l) i j := by
  have ok := chk_ok hc
  have e : closeAll n l = (war n.toNat (natL l)).map ptsI := if_pos hc
  rw [e, mapP_get, ptsI_mem, war_bit ok.good]
  exact ⟨fun h => h.2, fun h => ⟨by have := (h.lt ok.good).2; have := ok.hi; omega, h⟩⟩
theorem close_congr {n : Int} {l l' : List (Int × Int)} (hc : chk n l = 0) (hc' : chk n l' = 0) (h : ∀ i j, Path1 (natL l) i j ↔ Path1 (natL l') i j) : closeAll n l = closeAll n l' := by
  have ok := chk_ok hc
  have ok' := chk_ok hc'
  rw [show closeAll n l = (war n.toNat (natL l)).map ptsI from if_pos hc, show closeAll n l' = (war n.toNat (natL l')).map ptsI from if_pos hc']
  congr 1
  refine List.ext_getElem (by rw [war_len ok.good, war_len ok'.good]) fun i h1 h2 => ?_
  apply bits_eq
  intro j
  have g1 := war_bit ok.good i j
  have g2 := war_bit ok'.good i j
  rw [List.getD_eq_getElem?_getD, List.getElem?_eq_getElem h1, Option.getD_some] at g1
  rw [List.getD_eq_getElem?_getD, List.getElem?_eq_getElem h2, Option.getD_some] at g2
  rw [Bool.eq_iff_iff, g1, g2, h]
def intP (p : Nat × Nat) : Int × Int := ((p.1 : Int), (p.2 : Int))
def intL (l : List (Nat × Nat)) : List (Int × Int) := l.map intP
theorem lnN_int (l : List (Nat × Nat)) : l.map lnN = (intL l).map lnD := by unfold intL; rw [List.map_map]; rfl
theorem natL_int (l : List (Nat × Nat)) : natL (intL l) = l := by
  unfold natL intL
  rw [List.map_map]
  exact List.map_id _
theorem chk_sub {n : Int} {l l' : List (Int × Int)} (hc : chk n l = 0) (hl : l'.length ≤ 24) (h : ∀ p ∈ l', p ∈ l) : chk n l' = 0 := by
  rw [chk_iff] at hc ⊢
  exact ⟨hc.1, hl, fun p hp => hc.2.2 p (h p hp)⟩
theorem intL_sub {l : List (Int × Int)} {F : List (Nat × Nat)} (hl : ∀ p ∈ l, 0 ≤ p.1 ∧ 0 ≤ p.2) (h : ∀ p ∈ F, p ∈ natL l) : ∀ p ∈ intL F, p ∈ l := by
  intro p hp
  obtain ⟨q, hq, rfl⟩ := List.mem_map.1 hp
  obtain ⟨r, hr, rfl⟩ := List.mem_map.1 (h q hq)
  have := hl r hr
  have e : intP (natP r) = r := by
    show ((r.1.toNat : Int), (r.2.toNat : Int)) = r
    rw [Int.toNat_of_nonneg this.1, Int.toNat_of_nonneg this.2]
  rw [e]; exact hr
theorem closeM {n : Int} {l : List (Int × Int)} (hc : chk n l = 0) : (closeAll n l).length < 2 ^ 62 ∧ ∀ x ∈ closeAll n l, x.length < 2 ^ 62 := by
  have cw := closeW hc
  have h8 := cw.hi
  refine ⟨by rw [cw.len]; omega, fun x hx => ?_⟩
  obtain ⟨q, hq, rfl⟩ := List.mem_iff_getElem.1 hx
  have := cw.sz q
  rw [List.getD_eq_getElem?_getD, List.getElem?_eq_getElem hq, Option.getD_some] at this
  omega
structure FW (n : Int) (l F : List (Int × Int)) : Prop where
  chk0 : chk n l = 0
  chkF : chk n F = 0
  same : closeAll n F = closeAll n l
  len : F.length ≤ l.length
  sub : ∀ p ∈ F, p ∈ l
  need : ∀ k : Nat, k < F.length → chk n (butL F (k : Int)) = 0 ∧ closeAll n (butL F (k : Int)) ≠ closeAll n l
theorem fewW {n : Int} {l : List (Int × Int)} (h : topoE n l = 0) : FW n l (intL (fewR n l)) := by
  obtain ⟨hc, o, ho⟩ := topoE_zero h
  have ok := chk_ok hc
  have h8 := ok.hi
  have e : fewR n l = few n.toNat (natL l) := if_pos h
  rw [e]
  have ht := topo_some (by omega) ok.good ho
  have hlen : (intL (few n.toNat (natL l))).length ≤ l.length := by
    unfold intL; rw [List.length_map]
    have := few_len (n := n.toNat) (by omega) ok.good
    rw [natL_len] at this; exact this
  have hsub := intL_sub ok.rng (F := few n.toNat (natL l)) fun p hp => few_sub (by omega) ok.good hp
  have h24 := ok.len
  have hcF := chk_sub hc (by omega) hsub
  refine ⟨hc, hcF, close_congr hcF hc fun i j => by rw [natL_int]; exact few_path (by omega) ok.good ht, hlen, hsub, fun k hk => ?_⟩
  have hk' : k < (few n.toNat (natL l)).length := by simpa [intL] using hk
  have hcB : chk n (butL (intL (few n.toNat (natL l))) (k : Int)) = 0 := chk_sub hcF (by
    have := butK_len (intL (few n.toNat (natL l))) (k : Int) (intL (few n.toNat (natL l))).length
    unfold butL; omega) fun p hp => but_mem hp
  refine ⟨hcB, fun e => ?_⟩
  obtain ⟨i, j, h1, h2⟩ := few_need (by omega) ok.good hk'
  have h3 := (close_mem hc i j).2 h1
  rw [← e] at h3
  have h4 := (close_mem hcB i j).1 h3
  have e2 : natL (butL (intL (few n.toNat (natL l))) (k : Int)) = (few n.toNat (natL l)).eraseIdx k := by
    show (butL (intL (few n.toNat (natL l))) (k : Int)).map natP = _
    rw [← but_map]
    have e3 : (intL (few n.toNat (natL l))).map natP = few n.toNat (natL l) := natL_int _
    rw [e3, but_erase _ _ hk']
  rw [e2] at h4
  exact h2 h4
theorem lCloseFew_spec (n : Int) (l : List (Int × Int)) (k : Int) (_hn : -9223372036854775808 ≤ n ∧ n ≤ 9223372036854775807) (hpre : l.length < 2 ^ 43) (_hk : -9223372036854775808 ≤ k ∧ k ≤ 9223372036854775807) : FnD Try.prog 8 [I .i64 n, .l (l.map lnD), I .i64 k] (Bo true) := by
  have hl62 : l.length < 2 ^ 62 := by omega
  refine FnD.go Try.func8 rfl rfl Try.results8 Try.ntmps8 ?_
  simp (implicitDefEqProofs := false) (dsimp := false) only [↓aw_seq, ↓aw_reg, ↓Qseq_n, ↓ops_nil, ↓ops_cons, ↓eval_bool, ↓eval_func, ↓put_some, ↓op_assign, ↓op_call, isD_d, ↓fnK_f, ↓call_H, ↓callK_H, ↓allT_nil, ↓td_d, List.set_cons_zero, List.set_cons_succ, List.cons_append, List.nil_append, List.append_nil, List.map_cons, List.map_nil, List.length_cons, List.length_nil, List.all_nil, Bool.and_self, Nat.reduceAdd, Nat.reduceSub, Nat.reduceMul, Nat.zero_add, List.replicate, evK_go, reduceIte, Nat.reduceEqDiff, Nat.reduceLT, and_self, Int.zero_add]
  simp (implicitDefEqProofs := false) (dsimp := false) only [cfact_call, few_call, hl62, eval_nilI, ↓er_neq, ↓cdK_false, ↓cdK_not, ↓nthK_H, ↓nthH_zero, ↓nthH_succ, ↓aw_cond, ↓aw_seq, ↓aw_skip, ↓aw_reg, ↓Qseq_n, ↓ops_nil, ↓ops_cons, ↓eval_tmp, ↓eval_func, ↓put_some, ↓bK_b, ↓tK_t, ↓op_move, ↓op_assign, ↓op_bin, ↓op_not, ↓op_extract, ↓op_call, isD_d, ↓fnK_f, ↓call_H, ↓callK_H, ↓allT_nil, ↓allT_cons, ↓td_d, List.getD_cons_zero, List.getD_cons_succ, List.set_cons_zero, List.set_cons_succ, List.append_nil, List.all_cons, List.all_nil, Bool.true_and, Bool.and_self, Bool.true_or, Nat.reduceAdd, Nat.reduceSub, Nat.reduceMul, evK_go, reduceIte, Bool.not_true, Nat.reduceEqDiff, Nat.reduceLT, and_self, true_and]
  (repeat refine OrH.l ?_)
  refine cdK_dec (fun hc => ?_) (fun hc => ?_)
  rotate_left
  · have e1 : fewR n l = [] := if_neg hc
    simp (implicitDefEqProofs := false) (dsimp := false) only [e1, ↓aw_seq, ↓aw_ret, ↓aw_reg, ↓Qseq_n, ↓Qseq_r, ↓Qret_r, ↓ops_nil, ↓ops_cons, ↓eval_tmp, ↓eval_int, ↓put_some, ↓lenK_l, ↓binE_i, ↓bi_eql, ↓op_move, ↓op_assign, ↓op_bin, ↓op_len, ↓td_d, ↓ret_1, ↓sl22, List.getD_cons_zero, List.getD_cons_succ, List.set_cons_zero, List.set_cons_succ, List.map_nil, List.length_nil, Nat.reduceAdd, Nat.reduceSub, Nat.reduceMul, evK_go, reduceIte, decide_true, Nat.reduceEqDiff, Nat.reduceLT, Int.cast_ofNat_Int]
  have fw := fewW hc
  have hM62 := closeM fw.chk0
  rw [lnN_int]
  generalize intL (fewR n l) = F at fw ⊢
  have hF62 : F.length < 2 ^ 62 := by have := fw.len; omega
  have hFl : ¬ F.length > l.length := by have := fw.len; omega
  have h24 := fw.len
  simp (implicitDefEqProofs := false) (dsimp := false) only [call_call, hl62, hF62, fw.chk0, fw.chkF, fw.same, erows_call, hM62, hFl, eval_nilI, ↓er_neq, ↓cdK_false, ↓gdK_f, ↓gval_mk, ↓gvL_zero, ↓gvL_succ, ↓nthK_H, ↓nthH_zero, ↓nthH_succ, ↓aw_cond, ↓aw_seq, ↓aw_block, ↓aw_skip, ↓aw_loop, ↓aw_reg, ↓Qseq_n, ↓ops_nil, ↓ops_cons, ↓ops_guard, ↓eval_tmp, ↓eval_int, ↓eval_func, ↓put_some, ↓bK_b, ↓lenK_l, ↓tK_t, ↓binE_i, ↓bi_gtr, ↓op_move, ↓op_assign, ↓op_pick, ↓op_bin, ↓op_not, ↓op_extract, ↓op_len, ↓op_call, isD_d, ↓fnK_f, ↓call_H, ↓callK_H, ↓allT_nil, ↓allT_cons, ↓td_d, ↓st_tm, ↓sl22, List.getD_cons_zero, List.getD_cons_succ, List.set_cons_zero, List.set_cons_succ, List.append_nil, List.length_map, List.all_cons, List.all_nil, Bool.true_and, Bool.and_self, Bool.true_or, Nat.reduceAdd, Nat.reduceSub, Nat.reduceMul, evK_go, reduceIte, decide_true, decide_false, Bool.not_true, Nat.reduceEqDiff, Nat.reduceLT, and_self, true_and, Int.ofNat_lt]
  (repeat refine OrH.l ?_)
  refine ⟨hM62.2, ?_⟩
  refine loopW (fun i : Nat => { tm := slots 102 [(0, .d (I .i64 n)), (1, .d (.l (l.map lnD))), (2, .d (I .i64 k)), (8, .d (.l (F.map lnD))), (10, .d (.l ((closeAll n l).map liD))), (14, .d (I .i64 i))], bx := [], rw := [] })
    (fun i => i ≤ F.length) (fun i => F.length - i) 0 (by simp) ?_ ?_
  · refine Wkn.of [] [] ?_; simp (implicitDefEqProofs := false) (dsimp := false) only [List.set_cons_zero, List.set_cons_succ, Bool.and_self, Nat.reduceAdd, Nat.reduceSub, Nat.reduceMul, List.replicate, evK_go, reduceIte, Nat.reduceEqDiff, Nat.reduceLT, and_self, List.foldl_cons, List.foldl_nil, Int.cast_ofNat_Int, slots, wkL_nil, wkL_cons, wkB_nil, wkR_nil, wkV_j, wkV_d, frz_d, reduceCtorEq]
  · intro i hi
    simp (implicitDefEqProofs := false) (dsimp := false) only [slots, ↓aw_cond, ↓aw_seq, ↓aw_reg, ↓Qseq_n, ↓ops_nil, ↓ops_cons, ↓eval_tmp, ↓put_some, ↓bK_b, ↓lenK_l, ↓binE_i, ↓bi_lss, ↓op_move, ↓op_bin, ↓op_len, ↓sl22, List.getD_cons_zero, List.getD_cons_succ, List.set_cons_zero, List.set_cons_succ, List.length_map, Nat.reduceAdd, Nat.reduceSub, Nat.reduceMul, List.replicate, evK_go, reduceIte, Nat.reduceEqDiff, Nat.reduceLT, List.foldl_cons, List.foldl_nil, Int.ofNat_lt]
    refine cdK_dec (fun h => ?_) (fun h => ?_)
    · have hm := fw.sub _ (getD_mem h)
      simp (implicitDefEqProofs := false) (dsimp := false) only [h, lnD, goes_callQ, hl62, ↓cdK_not, ↓atK_H, ↓atH_map, ↓aw_cond, ↓aw_seq, ↓aw_block, ↓aw_skip, ↓aw_draw, ↓Qseq_n, ↓eval_tmp, ↓eval_func, ↓put_some, ↓bK_b, ↓iK_i, ↓ev_move, ↓ev_load, ↓ev_not, ↓ev_fa, ↓ev_ia, ↓ldK_q, ↓faK_q, ↓iaK_l, isD_d, ↓fnK_f, ↓callKQ_H, ↓allT_nil, ↓allT_cons, ↓td_d, ↓draw_H, ↓h_nil, ↓h_cons, ↓ldH_n, ↓q_call, ↓q_move, ↓q_load, ↓q_un, ↓q_fa, ↓q_ia, ↓il_move, ↓il_load, ↓il_un, ↓il_fa, ↓il_ia, ↓il_call, ↓cells_s, ↓hd_cons, ↓ty3, ↓sl22, ↓ty35, ↓fd35_0, ↓fd35_1, List.getD_cons_zero, List.getD_cons_succ, List.set_cons_zero, List.set_cons_succ, List.append_nil, List.length_cons, List.length_nil, List.all_cons, List.all_nil, Bool.true_and, Bool.and_self, Bool.true_or, Nat.reduceAdd, Nat.reduceSub, Nat.reduceMul, Nat.zero_add, Int.toNat_natCast, evK_go, reduceIte, decide_true, Nat.reduceEqDiff, Nat.reduceLT, and_self, true_and, Int.zero_add, List.drop_zero, List.drop_succ_cons, Int.natCast_nonneg]
      have e : ((F.getD i default).1, (F.getD i default).2) = F.getD i default := rfl
      refine OrH.l ⟨DrawH.of follows_mixed (by kernel_rfl), ?_⟩
      simp (implicitDefEqProofs := false) (dsimp := false) only [e, hm, ↓cdK_true, ↓aw_skip, ↓aw_reg, ↓Qseq_n, ↓Qblk_n, ↓ops_nil, ↓ops_cons, ↓eval_tmp, ↓eval_int, ↓put_some, ↓binE_i, ↓bi_add, ↓in_i64, ↓op_move, ↓op_assign, ↓op_bin, List.getD_cons_zero, List.getD_cons_succ, List.set_cons_zero, List.set_cons_succ, Nat.reduceAdd, Nat.reduceSub, Nat.reduceMul, evK_go, reduceIte, decide_true, Bool.not_true, Nat.reduceEqDiff, Nat.reduceLT]
      (repeat refine OrH.l ?_)
      refine ⟨by omega, i + 1, by omega, by omega, ?_⟩
      refine Wkn.of [] [] ?_; simp (implicitDefEqProofs := false) (dsimp := false) only [List.set_cons_zero, List.set_cons_succ, Bool.and_self, Nat.reduceAdd, Nat.reduceSub, Nat.reduceMul, List.replicate, evK_go, reduceIte, Nat.reduceEqDiff, Nat.reduceLT, and_self, List.foldl_cons, List.foldl_nil, Int.cast_ofNat_Int, Int.natCast_add, slots, wkL_nil, wkL_cons, wkB_nil, wkR_nil, wkV_j, wkV_d, frz_d, reduceCtorEq]
    · simp (implicitDefEqProofs := false) (dsimp := false) only [in2_call, ↓cdK_not, ↓aw_cond, ↓aw_seq, ↓aw_exit, ↓aw_reg, ↓Qseq_n, ↓Qseq_x, ↓Qblk_x, ↓ops_nil, ↓ops_cons, ↓eval_tmp, ↓eval_int, ↓eval_func, ↓put_some, ↓bK_b, ↓lenK_l, ↓binE_i, ↓bi_sub, ↓in_i64, ↓op_move, ↓op_bin, ↓op_not, ↓op_len, ↓op_call, isD_d, ↓fnK_f, ↓call_H, ↓callK_H, ↓allT_nil, ↓allT_cons, ↓td_d, ↓sl22, List.getD_cons_zero, List.getD_cons_succ, List.set_cons_zero, List.set_cons_succ, List.append_nil, List.length_map, List.all_cons, List.all_nil, Bool.true_and, Bool.and_self, Bool.true_or, Nat.reduceAdd, Nat.reduceSub, Nat.reduceMul, evK_go, reduceIte, Nat.reduceEqDiff, Nat.reduceLT, and_self, true_and]
      refine ⟨by omega, ?_⟩
      (repeat refine OrH.l ?_)
      refine cdK_split (fun hk => ?_) (fun hk => ?_)
      rotate_left
      · simp (implicitDefEqProofs := false) (dsimp := false) only [↓aw_seq, ↓aw_ret, ↓aw_reg, ↓Qseq_n, ↓Qseq_r, ↓Qret_r, ↓ops_nil, ↓ops_cons, ↓eval_tmp, ↓eval_bool, ↓put_some, ↓op_assign, ↓td_d, ↓ret_1, List.getD_cons_zero, List.getD_cons_succ, List.set_cons_zero, List.set_cons_succ, Nat.reduceAdd, Nat.reduceSub, Nat.reduceMul, evK_go, reduceIte, Nat.reduceEqDiff, Nat.reduceLT]
      rw [inB_iff] at hk
      obtain ⟨x, rfl⟩ := Int.eq_ofNat_of_zero_le hk.1
      obtain ⟨hB1, hB2⟩ := fw.need x (by omega)
      have hB62 : (butL F (x : Int)).length < 2 ^ 62 := by
        have := butK_len F (x : Int) F.length
        unfold butL; omega
      have hB3 : ¬ closeAll n l = closeAll n (butL F (x : Int)) := fun e => hB2 e.symm
      have hF43 : F.length < 2 ^ 43 := by omega
      simp (implicitDefEqProofs := false) (dsimp := false) only [but_callD, hF43, call_call, hB62, hB1, hB3, erows_call, hM62, eval_nilI, ↓er_eql, ↓cdK_true, ↓gdK_t, ↓gval_mk, ↓gvL_zero, ↓gvL_succ, ↓nthK_H, ↓nthH_zero, ↓nthH_succ, ↓aw_seq, ↓aw_ret, ↓aw_skip, ↓aw_reg, ↓Qseq_n, ↓Qret_r, ↓ops_nil, ↓ops_cons, ↓ops_guard, ↓eval_tmp, ↓eval_func, ↓put_some, ↓bK_b, ↓tK_t, ↓op_move, ↓op_assign, ↓op_pick, ↓op_bin, ↓op_not, ↓op_extract, ↓op_call, isD_d, ↓fnK_f, ↓call_H, ↓callK_H, ↓allT_nil, ↓allT_cons, ↓td_d, ↓ret_1, ↓st_tm, List.getD_cons_zero, List.getD_cons_succ, List.set_cons_zero, List.set_cons_succ, List.append_nil, List.all_cons, List.all_nil, Bool.and_true, Bool.true_and, Bool.and_self, Bool.true_or, Nat.reduceAdd, Nat.reduceSub, Nat.reduceMul, evK_go, reduceIte, decide_true, decide_false, Bool.not_false, Nat.reduceEqDiff, Nat.reduceLT, and_self, true_and, and_true]
      (repeat refine OrH.l ?_)
      exact hM62.2
end Go.Proofs

namespace Go.Proofs
open Go.Aw
set_option linter.unusedSimpArgs false
set_option maxRecDepth 10000
def mErr (left right : Int) (p : Int × Int) : Int := if (inB p.1 0 (left - 1) && inB p.2 0 (right - 1)) = true then 0 else 1
def mchk (left right : Int) (l : List (Int × Int)) : Int := if (inB left 0 6 && inB right 0 6) = false then 1 else if 24 < l.length then 4 else firstErr (mErr left right) l
theorem mcheck_spec (left right : Int) (l : List (Int × Int)) (hpre : l.length < 2 ^ 62) : FnD Try.prog 67 [I .i64 left, I .i64 right, .l (l.map lnD)] (erD (mchk left right l)) := by
  refine FnD.go Try.func67 rfl rfl Try.results67 Try.ntmps67 ?_
  simp (implicitDefEqProofs := false) (dsimp := false) only [↓aw_seq, ↓aw_reg, ↓Qseq_n, ↓ops_nil, ↓ops_cons, ↓eval_tmp, ↓eval_int, ↓eval_func, ↓put_some, ↓op_move, ↓op_assign, ↓op_call, isD_d, ↓fnK_f, ↓call_H, ↓callK_H, ↓allT_nil, ↓allT_cons, ↓td_d, List.getD_cons_zero, List.getD_cons_succ, List.set_cons_zero, List.set_cons_succ, List.cons_append, List.nil_append, List.append_nil, List.map_cons, List.map_nil, List.length_cons, List.length_nil, List.all_cons, List.all_nil, Bool.and_self, Nat.reduceAdd, Nat.reduceSub, Nat.reduceMul, Nat.zero_add, List.replicate, evK_go, reduceIte, Nat.reduceEqDiff, Nat.reduceLT, and_self, Int.zero_add]
  simp (implicitDefEqProofs := false) (dsimp := false) only [within_call, eval_nilI, ↓cdK_not, ↓gdK_f, ↓gval_mk, ↓gvL_zero, ↓gvL_succ, ↓ops_cons, ↓ops_guard, ↓eval_tmp, ↓put_some, ↓bK_b, ↓op_move, ↓op_not, ↓st_tm, List.getD_cons_zero, List.getD_cons_succ, List.set_cons_zero, List.set_cons_succ, Bool.true_and, Bool.true_or, Nat.reduceAdd, Nat.reduceSub, Nat.reduceMul, evK_go, reduceIte, Nat.reduceEqDiff, Nat.reduceLT, true_and]
  refine OrH.l (OrH.l (cdK_split (fun hA => ?_) (fun hA => ?_)))
  rotate_left
  · have e : mchk left right l = 1 := by simp (implicitDefEqProofs := false) (dsimp := false) only [mchk, hA, Bool.false_and, reduceIte]
    rw [e]
    simp (implicitDefEqProofs := false) (dsimp := false) only [hA, nc97, erD_1, ↓cdK_true, ↓gdK_f, ↓gval_mk, ↓gvL_zero, ↓gvL_succ, ↓aw_cond, ↓aw_seq, ↓aw_ret, ↓aw_reg, ↓Qseq_n, ↓Qseq_r, ↓Qret_r, ↓ops_nil, ↓ops_cons, ↓ops_guard, ↓eval_tmp, ↓eval_int, ↓eval_bool, ↓put_some, ↓bK_b, ↓vK_c, ↓op_assign, ↓op_pick, ↓op_iface, ↓td_d, ↓ret_1, ↓st_tm, ↓nc97, List.getD_cons_zero, List.getD_cons_succ, List.set_cons_zero, List.set_cons_succ, Bool.and_self, Nat.reduceAdd, Nat.reduceSub, Nat.reduceMul, evK_go, reduceIte, Bool.not_false, Nat.reduceEqDiff, Nat.reduceLT, and_self]
  simp (implicitDefEqProofs := false) (dsimp := false) only [hA, within_call, ↓cdK_false, ↓cdK_not, ↓gdK_f, ↓gval_mk, ↓gvL_zero, ↓gvL_succ, ↓aw_cond, ↓Qseq_n, ↓ops_nil, ↓ops_cons, ↓ops_guard, ↓eval_tmp, ↓eval_int, ↓eval_func, ↓put_some, ↓bK_b, ↓op_move, ↓op_pick, ↓op_not, ↓op_call, isD_d, ↓fnK_f, ↓call_H, ↓callK_H, ↓allT_nil, ↓allT_cons, ↓td_d, ↓st_tm, List.getD_cons_zero, List.getD_cons_succ, List.set_cons_zero, List.set_cons_succ, List.append_nil, List.all_cons, List.all_nil, Bool.true_and, Bool.and_self, Bool.true_or, Nat.reduceAdd, Nat.reduceSub, Nat.reduceMul, evK_go, reduceIte, Bool.not_true, Nat.reduceEqDiff, Nat.reduceLT, and_self, true_and]
  refine OrH.l (OrH.l (cdK_split (fun hB => ?_) (fun hB => ?_)))
  rotate_left
  · have e : mchk left right l = 1 := by simp (implicitDefEqProofs := false) (dsimp := false) only [mchk, hB, Bool.and_false, reduceIte]
    rw [e]
    simp (implicitDefEqProofs := false) (dsimp := false) only [hB, nc97, erD_1, ↓aw_seq, ↓aw_ret, ↓aw_reg, ↓Qseq_n, ↓Qseq_r, ↓Qret_r, ↓ops_nil, ↓ops_cons, ↓eval_tmp, ↓eval_int, ↓put_some, ↓vK_c, ↓op_assign, ↓op_iface, ↓td_d, ↓ret_1, ↓nc97, List.getD_cons_zero, List.getD_cons_succ, List.set_cons_zero, List.set_cons_succ, Bool.and_self, Nat.reduceAdd, Nat.reduceSub, Nat.reduceMul, evK_go, reduceIte, Bool.not_false, Nat.reduceEqDiff, Nat.reduceLT, and_self]
  simp (implicitDefEqProofs := false) (dsimp := false) only [hB, ↓aw_cond, ↓aw_seq, ↓aw_skip, ↓aw_reg, ↓Qseq_n, ↓ops_nil, ↓ops_cons, ↓eval_tmp, ↓eval_int, ↓put_some, ↓bK_b, ↓lenK_l, ↓binE_i, ↓bi_gtr, ↓op_move, ↓op_bin, ↓op_len, ↓sl22, List.getD_cons_zero, List.getD_cons_succ, List.set_cons_zero, List.set_cons_succ, List.length_map, Nat.reduceAdd, Nat.reduceSub, Nat.reduceMul, evK_go, reduceIte, Bool.not_true, Nat.reduceEqDiff, Nat.reduceLT]
  refine cdK_dec (fun h24 => ?_) (fun h24 => ?_)
  · have e : mchk left right l = 4 := by
      unfold mchk
      rw [hA, hB, if_neg (by decide), if_pos (by omega)]
    rw [e]
    simp (implicitDefEqProofs := false) (dsimp := false) only [nc97, erD_4, ↓aw_seq, ↓aw_ret, ↓aw_reg, ↓Qseq_n, ↓Qseq_r, ↓Qret_r, ↓ops_nil, ↓ops_cons, ↓eval_tmp, ↓eval_int, ↓put_some, ↓vK_c, ↓op_assign, ↓op_iface, ↓td_d, ↓ret_1, ↓nc97, List.getD_cons_zero, List.getD_cons_succ, List.set_cons_zero, List.set_cons_succ, Bool.and_self, Nat.reduceAdd, Nat.reduceSub, Nat.reduceMul, evK_go, reduceIte, Nat.reduceEqDiff, Nat.reduceLT, and_self]
  have hc : mchk left right l = firstErr (mErr left right) l := by
    unfold mchk
    rw [hA, hB, if_neg (by decide), if_neg (by omega)]
  rw [hc]
  simp (implicitDefEqProofs := false) (dsimp := false) only [↓aw_seq, ↓aw_block, ↓aw_skip, ↓aw_loop, ↓aw_reg, ↓Qseq_n, ↓ops_nil, ↓ops_cons, ↓eval_tmp, ↓eval_int, ↓put_some, ↓lenK_l, ↓op_move, ↓op_len, ↓sl22, List.getD_cons_zero, List.getD_cons_succ, List.set_cons_zero, List.set_cons_succ, List.length_map, Nat.reduceAdd, Nat.reduceSub, Nat.reduceMul, evK_go, reduceIte, Nat.reduceEqDiff, Nat.reduceLT]
  have hA' := inB_iff.1 hA
  have hB' := inB_iff.1 hB
  refine loopW (fun k : Nat => { tm := slots 44 [(0, .d (I .i64 left)), (1, .d (I .i64 right)), (22, .d (.l (l.map lnD))), (23, .d (I .i64 l.length)), (24, .d (I .i64 k))], bx := [], rw := [] })
    (fun k => k ≤ l.length ∧ firstErr (mErr left right) (l.take k) = 0) (fun k => l.length - k) 0 ⟨by simp, by simp [firstErr]⟩ ?_ ?_
  · refine Wkn.of [] [] ?_; simp (implicitDefEqProofs := false) (dsimp := false) only [List.set_cons_zero, List.set_cons_succ, Bool.and_self, Nat.reduceAdd, Nat.reduceSub, Nat.reduceMul, List.replicate, evK_go, reduceIte, Nat.reduceEqDiff, Nat.reduceLT, and_self, List.foldl_cons, List.foldl_nil, Int.cast_ofNat_Int, slots, wkL_nil, wkL_cons, wkB_nil, wkR_nil, wkV_j, wkV_d, frz_d, reduceCtorEq]
  · rintro k ⟨h1, h2⟩
    simp (implicitDefEqProofs := false) (dsimp := false) only [slots, ↓aw_cond, ↓aw_seq, ↓aw_reg, ↓Qseq_n, ↓ops_nil, ↓ops_cons, ↓eval_tmp, ↓put_some, ↓bK_b, ↓binE_i, ↓bi_lss, ↓op_bin, List.getD_cons_zero, List.getD_cons_succ, List.set_cons_zero, List.set_cons_succ, Nat.reduceAdd, Nat.reduceSub, Nat.reduceMul, List.replicate, evK_go, reduceIte, Nat.reduceEqDiff, Nat.reduceLT, List.foldl_cons, List.foldl_nil, Int.ofNat_lt]
    refine cdK_dec (fun h => ?_) (fun h => ?_)
    · obtain ⟨g1, g2⟩ := firstErr_take h h2
      simp (implicitDefEqProofs := false) (dsimp := false) only [h, lnD, within_call, ↓cdK_not, ↓gdK_f, ↓gval_mk, ↓gvL_zero, ↓gvL_succ, ↓atK_H, ↓atH_map, ↓nthK_H, ↓nthH_zero, ↓aw_seq, ↓aw_block, ↓aw_skip, ↓aw_reg, ↓Qseq_n, ↓ops_nil, ↓ops_cons, ↓ops_guard, ↓eval_tmp, ↓eval_int, ↓eval_func, ↓put_some, ↓put_none, ↓bK_b, ↓iK_i, ↓binE_i, ↓bi_sub, ↓in_i64, ↓ldK_q, ↓ldK_p, ↓faK_p, ↓iaK_l, ↓op_move, ↓op_load, ↓op_bin, ↓op_not, ↓op_fa, ↓op_ia, ↓op_call, ↓op_alloc, ↓op_store, isD_d, ↓fnK_f, ↓call_H, ↓callK_H, ↓allT_nil, ↓allT_cons, ↓td_d, ↓addBox_mk, ↓setBox_mk, ↓st_tm, ↓st_bx, ↓cells_s, ↓vcells_s, ↓one_i, ↓vone_d, constV_a, ↓st_p, ↓ty3, ↓sl22, ↓ty35, ↓zb35, ↓fd35_0, List.getD_cons_zero, List.getD_cons_succ, List.set_cons_zero, List.set_cons_succ, List.nil_append, List.append_nil, List.map_cons, List.map_nil, List.length_cons, List.length_nil, List.all_cons, List.all_nil, Bool.true_and, Bool.and_self, Bool.true_or, Nat.reduceAdd, Nat.reduceSub, Nat.reduceMul, Nat.zero_add, Nat.add_zero, Int.toNat_natCast, evK_go, reduceIte, decide_true, Nat.reduceEqDiff, Nat.reduceLT, and_self, true_and, Int.zero_add, List.take_succ_cons, List.take_nil, Int.natCast_nonneg]
      refine ⟨by decide, by omega, OrH.l (OrH.l (cdK_split (fun ha => ?_) (fun ha => ?_)))⟩
      rotate_left
      · have e : mErr left right (l.getD k default) = 1 := by simp (implicitDefEqProofs := false) (dsimp := false) only [mErr, ha, Bool.false_and, Bool.false_eq_true, reduceIte]
        rw [g2 (by rw [e]; decide), e]
        simp (implicitDefEqProofs := false) (dsimp := false) only [ha, nc97, erD_1, ↓cdK_true, ↓gdK_f, ↓gval_mk, ↓gvL_zero, ↓gvL_succ, ↓aw_cond, ↓aw_seq, ↓aw_ret, ↓aw_reg, ↓Qseq_n, ↓Qseq_r, ↓Qblk_r, ↓Qret_r, ↓ops_nil, ↓ops_cons, ↓ops_guard, ↓eval_tmp, ↓eval_int, ↓eval_bool, ↓put_some, ↓bK_b, ↓vK_c, ↓op_assign, ↓op_pick, ↓op_iface, ↓td_d, ↓ret_1, ↓st_tm, ↓nc97, List.getD_cons_zero, List.getD_cons_succ, List.set_cons_zero, List.set_cons_succ, Bool.and_self, Nat.reduceAdd, Nat.reduceSub, Nat.reduceMul, evK_go, reduceIte, Bool.not_false, Nat.reduceEqDiff, Nat.reduceLT, and_self]
      simp (implicitDefEqProofs := false) (dsimp := false) only [ha, within_call, ↓cdK_false, ↓cdK_not, ↓gdK_f, ↓gval_mk, ↓gvL_zero, ↓gvL_succ, ↓nthK_H, ↓nthH_zero, ↓nthH_succ, ↓aw_cond, ↓Qseq_n, ↓ops_nil, ↓ops_cons, ↓ops_guard, ↓eval_tmp, ↓eval_int, ↓eval_func, ↓put_some, ↓bK_b, ↓binE_i, ↓bi_sub, ↓in_i64, ↓ldK_p, ↓faK_p, ↓op_move, ↓op_pick, ↓op_load, ↓op_bin, ↓op_not, ↓op_fa, ↓op_call, isD_d, ↓fnK_f, ↓call_H, ↓callK_H, ↓allT_nil, ↓allT_cons, ↓td_d, ↓st_tm, ↓vcells_s, ↓ty3, ↓fd35_1, List.getD_cons_zero, List.getD_cons_succ, List.set_cons_zero, List.set_cons_succ, List.append_nil, List.map_cons, List.map_nil, List.all_cons, List.all_nil, Bool.true_and, Bool.and_self, Bool.true_or, Nat.reduceAdd, Nat.reduceSub, Nat.reduceMul, Nat.zero_add, evK_go, reduceIte, Bool.not_true, Nat.reduceEqDiff, Nat.reduceLT, and_self, true_and, Int.zero_add]
      refine ⟨by omega, OrH.l (OrH.l (cdK_split (fun hb => ?_) (fun hb => ?_)))⟩
      · have e : mErr left right (l.getD k default) = 0 := by simp (implicitDefEqProofs := false) (dsimp := false) only [mErr, ha, hb, Bool.and_self, reduceIte]
        simp (implicitDefEqProofs := false) (dsimp := false) only [hb, ↓aw_skip, ↓aw_reg, ↓Qseq_n, ↓Qblk_n, ↓ops_nil, ↓ops_cons, ↓eval_tmp, ↓eval_int, ↓put_some, ↓binE_i, ↓bi_add, ↓in_i64, ↓op_move, ↓op_bin, List.getD_cons_zero, List.getD_cons_succ, List.set_cons_zero, List.set_cons_succ, Nat.reduceAdd, Nat.reduceSub, Nat.reduceMul, evK_go, reduceIte, Bool.not_true, Nat.reduceEqDiff, Nat.reduceLT]
        refine ⟨by omega, k + 1, ⟨by omega, g1 e⟩, by omega, ?_⟩
        refine Wkn.of [] [] ?_; simp (implicitDefEqProofs := false) (dsimp := false) only [List.set_cons_zero, List.set_cons_succ, Bool.and_self, Nat.reduceAdd, Nat.reduceSub, Nat.reduceMul, List.replicate, evK_go, reduceIte, Nat.reduceEqDiff, Nat.reduceLT, and_self, List.foldl_cons, List.foldl_nil, Int.cast_ofNat_Int, Int.natCast_add, slots, wkL_nil, wkL_cons, wkB_nil, wkR_nil, wkV_j, wkV_d, frz_d, reduceCtorEq]
      · have e : mErr left right (l.getD k default) = 1 := by simp (implicitDefEqProofs := false) (dsimp := false) only [mErr, hb, Bool.and_false, Bool.false_eq_true, reduceIte]
        rw [g2 (by rw [e]; decide), e]
        simp (implicitDefEqProofs := false) (dsimp := false) only [hb, nc97, erD_1, ↓aw_seq, ↓aw_ret, ↓aw_reg, ↓Qseq_n, ↓Qseq_r, ↓Qblk_r, ↓Qret_r, ↓ops_nil, ↓ops_cons, ↓eval_tmp, ↓eval_int, ↓put_some, ↓vK_c, ↓op_assign, ↓op_iface, ↓td_d, ↓ret_1, ↓nc97, List.getD_cons_zero, List.getD_cons_succ, List.set_cons_zero, List.set_cons_succ, Bool.and_self, Nat.reduceAdd, Nat.reduceSub, Nat.reduceMul, evK_go, reduceIte, Bool.not_false, Nat.reduceEqDiff, Nat.reduceLT, and_self]
    · obtain rfl : k = l.length := by omega
      rw [List.take_length] at h2
      rw [h2]
      simp (implicitDefEqProofs := false) (dsimp := false) only [erD_0, eval_nilI, ↓aw_seq, ↓aw_exit, ↓aw_ret, ↓aw_reg, ↓Qseq_n, ↓Qseq_x, ↓Qblk_x, ↓Qret_r, ↓ops_nil, ↓ops_cons, ↓eval_tmp, ↓put_some, ↓op_assign, ↓td_d, ↓ret_1, List.getD_cons_zero, List.getD_cons_succ, List.set_cons_zero, List.set_cons_succ, Nat.reduceAdd, Nat.reduceSub, Nat.reduceMul, evK_go, reduceIte, decide_false, Nat.reduceEqDiff, Nat.reduceLT, Nat.lt_irrefl]
theorem mcheck_call (left right : Int) (l : List (Int × Int)) (pure : Bool) (σ : St) (dst : Option Tmp) (K : St → Prop) : CallH Try.prog 67 [I .i64 left, I .i64 right, .l (l.map lnD)] pure σ dst (.mk : Hid K) = OrH ((l.length < 2 ^ 62) ∧ (pure || D.flat (erD (mchk left right l))) = true ∧ evK (σ.put dst (.d (erD (mchk left right l)))) (.mk : Hid K)) (.mk : Hid (CallH Try.prog 67 [I .i64 left, I .i64 right, .l (l.map lnD)] pure σ dst (.mk : Hid K))) := CallH.eq (mcheck_spec left right l) pure σ dst K
theorem mcheck_callQ (left right : Int) (l : List (Int × Int)) (pure : Bool) (C : V → Prop) : CallQ Try.prog 67 [I .i64 left, I .i64 right, .l (l.map lnD)] pure (.mk : Hid C) = OrH ((l.length < 2 ^ 62) ∧ (pure || D.flat (erD (mchk left right l))) = true ∧ evK (V.d (erD (mchk left right l))) (.mk : Hid C)) (.mk : Hid (CallQ Try.prog 67 [I .i64 left, I .i64 right, .l (l.map lnD)] pure (.mk : Hid C))) := CallQ.eq (mcheck_spec left right l) pure C
/-- What two sides without fault are. -/
structure MOk (left right : Int) (l : List (Int × Int)) : Prop where
  l0 : left = (left.toNat : Int)
  r0 : right = (right.toNat : Int)
  lhi : left.toNat ≤ 6
  rhi : right.toNat ≤ 6
  len : l.length ≤ 24
  rng : ∀ p ∈ l, 0 ≤ p.1 ∧ 0 ≤ p.2
  sides : Sides left.toNat right.toNat (natL l)
theorem mchk_iff {left right : Int} {l : List (Int × Int)} : mchk left right l = 0 ↔ ((0 ≤ left ∧ left ≤ 6) ∧ 0 ≤ right ∧ right ≤ 6) ∧ l.length ≤ 24 ∧ ∀ p ∈ l, (0 ≤ p.1 ∧ p.1 ≤ left - 1) ∧ 0 ≤ p.2 ∧ p.2 ≤ right - 1 := by
  have hm : ∀ p, mErr left right p = 0 ↔ (0 ≤ p.1 ∧ p.1 ≤ left - 1) ∧ 0 ≤ p.2 ∧ p.2 ≤ right - 1 := fun p => by
    unfold mErr
    rw [← inB_iff, ← inB_iff, ← Bool.and_eq_true]
    split
    · rename_i h; exact ⟨fun _ => h, fun _ => rfl⟩
    · rename_i h; exact ⟨(fun h' => by cases h'), fun h' => absurd h' h⟩
  unfold mchk
  rw [← inB_iff, ← inB_iff, ← Bool.and_eq_true]
  split
  · rename_i h
    constructor
    · intro h; cases h
    · intro h'; rw [h] at h'; exact absurd h'.1 (by decide)
  · rename_i h
    have h : (inB left 0 6 && inB right 0 6) = true := by simpa using h
    split
    · constructor
      · intro h; cases h
      · intro h; omega
    · rw [firstErr_iff]
      constructor
      · intro h'; exact ⟨h, by omega, fun p hp => (hm p).1 (h' p hp)⟩
      · intro h' p hp; exact (hm p).2 (h'.2.2 p hp)
theorem mchk_ok {left right : Int} {l : List (Int × Int)} (h : mchk left right l = 0) : MOk left right l := by
  rw [mchk_iff] at h
  refine ⟨by omega, by omega, by omega, by omega, h.2.1, fun p hp => ⟨(h.2.2 p hp).1.1, (h.2.2 p hp).2.1⟩, fun p hp => ?_⟩
  obtain ⟨q, hq, rfl⟩ := List.mem_map.1 hp
  have := h.2.2 q hq
  simp (implicitDefEqProofs := false) (dsimp := false) only [natP]; omega
theorem MOk.pr {left right : Int} {l : List (Int × Int)} (h : MOk left right l) : left.toNat ≤ 8 ∧ right.toNat ≤ 8 ∧ (natL l).length < 2 ^ 62 ∧ Sides left.toNat right.toNat (natL l) := ⟨by have := h.lhi; omega, by have := h.rhi; omega, by rw [natL_len]; have := h.len; omega, h.sides⟩
def mostR (left right : Int) (l : List (Int × Int)) : Nat := if mchk left right l = 0 then mostK (kuhn left.toNat right.toNat (natL l)) else 0
def cntP (s : List Int) : Nat := s.countP fun x => decide (0 ≤ x)
theorem cntP_succ {s : List Int} {k : Nat} (h : k < s.length) : cntP (s.take (k + 1)) = cntP (s.take k) + if 0 ≤ s.getD k default then 1 else 0 := by
  unfold cntP
  rw [take_succ_getD h, List.countP_append]
  simp [List.countP_cons]
theorem cntP_most (s : List Int) : cntP s = mostK s := by
  unfold cntP mostK metR
  have e : s = (List.range s.length).map fun j => s.getD j default := by
    refine List.ext_getElem (by simp) fun i h1 h2 => ?_
    simp (implicitDefEqProofs := false) (dsimp := false) only [List.getElem_map, List.getElem_range]
    rw [List.getD_eq_getElem?_getD, List.getElem?_eq_getElem h1]; rfl
  conv => lhs; rw [e]
  rw [List.countP_map, List.countP_eq_length_filter]; rfl
theorem cntP_le (s : List Int) : cntP s ≤ s.length := List.countP_le_length
theorem most_spec (left right : Int) (l : List (Int × Int)) (hpre : l.length < 2 ^ 62) : FnD Try.prog 27 [I .i64 left, I .i64 right, .l (l.map lnD)] (.t [I .i64 (mostR left right l : Nat), erD (mchk left right l)]) := by
  refine FnD.go Try.func27 rfl rfl Try.results27 Try.ntmps27 ?_
  simp (implicitDefEqProofs := false) (dsimp := false) only [↓aw_seq, ↓aw_reg, ↓Qseq_n, ↓ops_nil, ↓ops_cons, ↓eval_tmp, ↓eval_int, ↓eval_func, ↓put_some, ↓op_move, ↓op_assign, ↓op_call, isD_d, ↓fnK_f, ↓call_H, ↓callK_H, ↓allT_nil, ↓allT_cons, ↓td_d, List.getD_cons_zero, List.getD_cons_succ, List.set_cons_zero, List.set_cons_succ, List.cons_append, List.nil_append, List.append_nil, List.map_cons, List.map_nil, List.length_cons, List.length_nil, List.all_cons, List.all_nil, Bool.and_self, Nat.reduceAdd, Nat.reduceSub, Nat.reduceMul, Nat.zero_add, List.replicate, evK_go, reduceIte, Nat.reduceEqDiff, Nat.reduceLT, and_self, Int.zero_add]
  simp (implicitDefEqProofs := false) (dsimp := false) only [mcheck_call, eval_nilI, ↓er_neq, er_flat, ↓cdK_not, ↓aw_cond, ↓aw_seq, ↓aw_reg, ↓Qseq_n, ↓ops_nil, ↓ops_cons, ↓eval_tmp, ↓put_some, ↓bK_b, ↓op_move, ↓op_assign, ↓op_bin, List.getD_cons_zero, List.getD_cons_succ, List.set_cons_zero, List.set_cons_succ, Bool.true_and, Bool.or_true, Nat.reduceAdd, Nat.reduceSub, Nat.reduceMul, evK_go, reduceIte, Nat.reduceEqDiff, Nat.reduceLT, true_and]
  refine OrH.l (OrH.l ⟨hpre, ?_⟩)
  refine cdK_dec (fun hc => ?_) (fun hc => ?_)
  rotate_left
  · simp (implicitDefEqProofs := false) (dsimp := false) only [mostR, hc, ↓aw_seq, ↓aw_ret, ↓aw_reg, ↓Qseq_n, ↓Qseq_r, ↓Qret_r, ↓ops_nil, ↓ops_cons, ↓eval_tmp, ↓eval_int, ↓put_some, ↓op_move, ↓op_assign, ↓td_d, ↓ret_2, List.getD_cons_zero, List.getD_cons_succ, List.set_cons_zero, List.set_cons_succ, Nat.reduceAdd, Nat.reduceSub, Nat.reduceMul, evK_go, reduceIte, decide_false, Bool.not_false, Nat.reduceEqDiff, Nat.reduceLT, Int.cast_ofNat_Int]
  have ok := mchk_ok hc
  rw [show mostR left right l = mostK (kuhn left.toNat right.toNat (natL l)) from if_pos hc, lnD_nat ok.rng, hc]
  have hpr := ok.pr
  have el := ok.l0
  have er := ok.r0
  have hkl : (kuhn left.toNat right.toNat (natL l)).length = right.toNat := (kuhn_end ok.sides (by have := ok.rhi; omega)).ok.len
  have hr8 := ok.rhi
  clear ok hc hpre
  generalize left.toNat = a at *
  generalize right.toNat = b at *
  subst el er
  generalize natL l = L at *
  simp (implicitDefEqProofs := false) (dsimp := false) only [pairs_callD, hpr, ↓aw_seq, ↓aw_block, ↓aw_skip, ↓aw_loop, ↓aw_reg, ↓Qseq_n, ↓ops_nil, ↓ops_cons, ↓eval_tmp, ↓eval_int, ↓eval_func, ↓put_some, ↓lenK_l, ↓op_move, ↓op_assign, ↓op_len, ↓op_call, isD_d, ↓fnK_f, ↓call_H, ↓callK_H, ↓allT_nil, ↓allT_cons, ↓td_d, ↓sl28, List.getD_cons_zero, List.getD_cons_succ, List.set_cons_zero, List.set_cons_succ, List.append_nil, List.length_map, List.all_cons, List.all_nil, Bool.true_and, Bool.and_self, Bool.true_or, Nat.reduceAdd, Nat.reduceSub, Nat.reduceMul, evK_go, reduceIte, decide_true, Bool.not_true, Nat.reduceEqDiff, Nat.reduceLT, and_self, true_and]
  (repeat refine OrH.l ?_)
  rw [← cntP_most]
  generalize kuhn a b L = H at hkl ⊢
  simp (implicitDefEqProofs := false) (dsimp := false) only [hkl]
  refine loopW (fun k : Nat => { tm := slots 34 [(9, .d (I .i64 (cntP (H.take k) : Nat))), (22, .d (.l (H.map (I .i64)))), (23, .d (I .i64 (b : Int))), (24, .d (I .i64 k))], bx := [], rw := [] })
    (fun k => k ≤ b) (fun k => b - k) 0 (by simp) ?_ ?_
  · refine Wkn.of [] [] ?_; simp (implicitDefEqProofs := false) (dsimp := false) only [cntP, List.countP_nil, List.set_cons_zero, List.set_cons_succ, Bool.and_self, Nat.reduceAdd, Nat.reduceSub, Nat.reduceMul, List.replicate, evK_go, reduceIte, Nat.reduceEqDiff, Nat.reduceLT, and_self, List.take_zero, List.foldl_cons, List.foldl_nil, Int.cast_ofNat_Int, slots, wkL_nil, wkL_cons, wkB_nil, wkR_nil, wkV_j, wkV_d, frz_d, reduceCtorEq]
  · intro k hk
    simp (implicitDefEqProofs := false) (dsimp := false) only [slots, ↓aw_cond, ↓aw_seq, ↓aw_reg, ↓Qseq_n, ↓ops_nil, ↓ops_cons, ↓eval_tmp, ↓put_some, ↓bK_b, ↓binE_i, ↓bi_lss, ↓op_bin, List.getD_cons_zero, List.getD_cons_succ, List.set_cons_zero, List.set_cons_succ, Nat.reduceAdd, Nat.reduceSub, Nat.reduceMul, List.replicate, evK_go, reduceIte, Nat.reduceEqDiff, Nat.reduceLT, List.foldl_cons, List.foldl_nil, Int.ofNat_lt]
    have hm := cntP_le (H.take k)
    rw [List.length_take] at hm
    refine cdK_dec (fun h => ?_) (fun h => ?_)
    · have hkH : k < H.length := by omega
      have hs := cntP_succ hkH
      simp (implicitDefEqProofs := false) (dsimp := false) only [hkH, ↓atK_H, ↓atH_map, ↓aw_cond, ↓aw_seq, ↓aw_block, ↓aw_skip, ↓aw_reg, ↓Qseq_n, ↓ops_nil, ↓ops_cons, ↓eval_tmp, ↓eval_int, ↓put_some, ↓bK_b, ↓iK_i, ↓binE_i, ↓bi_geq, ↓ldK_q, ↓iaK_l, ↓op_move, ↓op_assign, ↓op_load, ↓op_bin, ↓op_ia, ↓cells_c, ↓hd_cons, ↓ty3, ↓sl28, List.getD_cons_zero, List.getD_cons_succ, List.set_cons_zero, List.set_cons_succ, List.length_cons, List.length_nil, Bool.true_and, Nat.reduceAdd, Nat.reduceSub, Nat.reduceMul, Nat.zero_add, Int.toNat_natCast, evK_go, reduceIte, Nat.reduceEqDiff, Nat.reduceLT, true_and, Int.zero_add, Int.natCast_nonneg]
      refine cdK_dec (fun h1 => ?_) (fun h1 => ?_)
      · rw [if_pos h1] at hs
        simp (implicitDefEqProofs := false) (dsimp := false) only [↓aw_reg, ↓Qseq_n, ↓Qblk_n, ↓ops_nil, ↓ops_cons, ↓eval_tmp, ↓eval_int, ↓put_some, ↓binE_i, ↓bi_add, ↓in_i64, ↓op_move, ↓op_assign, ↓op_bin, List.getD_cons_zero, List.getD_cons_succ, List.set_cons_zero, List.set_cons_succ, Nat.reduceAdd, Nat.reduceSub, Nat.reduceMul, evK_go, reduceIte, Nat.reduceEqDiff, Nat.reduceLT]
        refine ⟨by omega, by omega, k + 1, by omega, by omega, ?_⟩
        refine Wkn.of [] [] ?_; simp (implicitDefEqProofs := false) (dsimp := false) only [hs, List.set_cons_zero, List.set_cons_succ, Bool.and_self, Nat.reduceAdd, Nat.reduceSub, Nat.reduceMul, List.replicate, evK_go, reduceIte, Nat.reduceEqDiff, Nat.reduceLT, and_self, List.foldl_cons, List.foldl_nil, Int.cast_ofNat_Int, Int.natCast_add, slots, wkL_nil, wkL_cons, wkB_nil, wkR_nil, wkV_j, wkV_d, frz_d, reduceCtorEq]
      · rw [if_neg h1] at hs
        simp (implicitDefEqProofs := false) (dsimp := false) only [↓aw_skip, ↓aw_reg, ↓Qseq_n, ↓Qblk_n, ↓ops_nil, ↓ops_cons, ↓eval_tmp, ↓eval_int, ↓put_some, ↓binE_i, ↓bi_add, ↓in_i64, ↓op_move, ↓op_bin, List.getD_cons_zero, List.getD_cons_succ, List.set_cons_zero, List.set_cons_succ, Nat.reduceAdd, Nat.reduceSub, Nat.reduceMul, evK_go, reduceIte, Nat.reduceEqDiff, Nat.reduceLT]
        refine ⟨by omega, k + 1, by omega, by omega, ?_⟩
        refine Wkn.of [] [] ?_; simp (implicitDefEqProofs := false) (dsimp := false) only [hs, List.set_cons_zero, List.set_cons_succ, Bool.and_self, Nat.reduceAdd, Nat.reduceSub, Nat.reduceMul, Nat.add_zero, List.replicate, evK_go, reduceIte, Nat.reduceEqDiff, Nat.reduceLT, and_self, List.foldl_cons, List.foldl_nil, Int.cast_ofNat_Int, Int.natCast_add, slots, wkL_nil, wkL_cons, wkB_nil, wkR_nil, wkV_j, wkV_d, frz_d, reduceCtorEq]
    · obtain rfl : k = b := by omega
      rw [List.take_of_length_le (by omega)]
      simp (implicitDefEqProofs := false) (dsimp := false) only [erD_0, eval_nilI, ↓aw_seq, ↓aw_exit, ↓aw_ret, ↓aw_reg, ↓Qseq_n, ↓Qseq_x, ↓Qblk_x, ↓Qret_r, ↓ops_nil, ↓ops_cons, ↓eval_tmp, ↓put_some, ↓op_move, ↓op_assign, ↓td_d, ↓ret_2, List.getD_cons_zero, List.getD_cons_succ, List.set_cons_zero, List.set_cons_succ, Nat.reduceAdd, Nat.reduceSub, Nat.reduceMul, evK_go, reduceIte, decide_false, Nat.reduceEqDiff, Nat.reduceLT, Nat.lt_irrefl]
theorem most_call (left right : Int) (l : List (Int × Int)) (pure : Bool) (σ : St) (dst : Option Tmp) (K : St → Prop) : CallH Try.prog 27 [I .i64 left, I .i64 right, .l (l.map lnD)] pure σ dst (.mk : Hid K) = OrH ((l.length < 2 ^ 62) ∧ (pure || D.flat (.t [I .i64 (mostR left right l : Nat), erD (mchk left right l)])) = true ∧ evK (σ.put dst (.d (.t [I .i64 (mostR left right l : Nat), erD (mchk left right l)]))) (.mk : Hid K)) (.mk : Hid (CallH Try.prog 27 [I .i64 left, I .i64 right, .l (l.map lnD)] pure σ dst (.mk : Hid K))) := CallH.eq (most_spec left right l) pure σ dst K
theorem most_callQ (left right : Int) (l : List (Int × Int)) (pure : Bool) (C : V → Prop) : CallQ Try.prog 27 [I .i64 left, I .i64 right, .l (l.map lnD)] pure (.mk : Hid C) = OrH ((l.length < 2 ^ 62) ∧ (pure || D.flat (.t [I .i64 (mostR left right l : Nat), erD (mchk left right l)])) = true ∧ evK (V.d (.t [I .i64 (mostR left right l : Nat), erD (mchk left right l)])) (.mk : Hid C)) (.mk : Hid (CallQ Try.prog 27 [I .i64 left, I .i64 right, .l (l.map lnD)] pure (.mk : Hid C))) := CallQ.eq (most_spec left right l) pure C
def covA (left right : Int) (l : List (Int × Int)) : List Nat := if mchk left right l = 0 then coverA left.toNat right.toNat (natL l) else []
def covB (left right : Int) (l : List (Int × Int)) : List Nat := if mchk left right l = 0 then coverB left.toNat right.toNat (natL l) else []
def met0K (left : Nat) (has : List Int) (k : Nat) : Nat := (has.take k).foldl (fun m h => if h < 0 then m else dif m (2 ^ h.toNat)) (2 ^ left - 1)
theorem met0K_succ (left : Nat) {has : List Int} {k : Nat} (h : k < has.length) : met0K left has (k + 1) = if has.getD k default < 0 then met0K left has k else dif (met0K left has k) (2 ^ (has.getD k default).toNat) := by
  unfold met0K
  rw [take_succ_getD h, List.foldl_append]; rfl
theorem met0K_lt {left : Nat} (hl : left ≤ 64) (has : List Int) (k : Nat) : met0K left has k < 2 ^ 64 := by
  unfold met0K
  generalize has.take k = L
  have h0 : 2 ^ left - 1 < 2 ^ 64 := by
    have h1 := Nat.one_le_two_pow (n := left)
    have h2 : 2 ^ left ≤ 2 ^ 64 := Nat.pow_le_pow_right (by omega) hl
    omega
  generalize 2 ^ left - 1 = m at h0
  induction L generalizing m with
  | nil => exact h0
  | cons x L ih =>
    refine ih _ ?_
    show (if _ then _ else _) < _
    split
    · exact h0
    · exact dif_lt h0
structure RC where
  met : Nat
  over : Nat
  pre : List Nat
  q : List Nat
structure RM where
  m : Nat
  s : CS
  pre : List Nat
theorem bits64 {s n : Nat} (h : ∀ i, s.testBit i = true → i < n) (hn : n ≤ 64) : s < 2 ^ 64 := by
  refine Nat.lt_pow_two_of_testBit _ fun i hi => ?_
  rw [← Bool.not_eq_true]
  intro h'
  have := h i h'; omega
theorem cover_spec (left right : Int) (l : List (Int × Int)) (hpre : l.length < 2 ^ 62) : FnD Try.prog 28 [I .i64 left, I .i64 right, .l (l.map lnD)] (.t [.l ((covA left right l).map nD), .l ((covB left right l).map nD), erD (mchk left right l)]) := by
  refine FnD.go Try.func28 rfl rfl Try.results28 Try.ntmps28 ?_
  simp (implicitDefEqProofs := false) (dsimp := false) only [↓aw_seq, ↓aw_reg, ↓Qseq_n, ↓ops_nil, ↓ops_cons, ↓eval_tmp, ↓eval_nil, ↓eval_func, ↓put_some, ↓op_move, ↓op_assign, ↓op_call, isD_d, ↓fnK_f, ↓call_H, ↓callK_H, ↓allT_nil, ↓allT_cons, ↓td_d, List.getD_cons_zero, List.getD_cons_succ, List.set_cons_zero, List.set_cons_succ, List.cons_append, List.nil_append, List.append_nil, List.map_cons, List.map_nil, List.length_cons, List.length_nil, List.all_cons, List.all_nil, Bool.and_self, Nat.reduceAdd, Nat.reduceSub, Nat.reduceMul, Nat.zero_add, List.replicate, evK_go, reduceIte, Nat.reduceEqDiff, Nat.reduceLT, and_self, Int.zero_add]
  simp (implicitDefEqProofs := false) (dsimp := false) only [mcheck_call, eval_nilI, ↓er_neq, er_flat, ↓cdK_not, ↓aw_cond, ↓aw_seq, ↓aw_reg, ↓Qseq_n, ↓ops_nil, ↓ops_cons, ↓eval_tmp, ↓put_some, ↓bK_b, ↓op_move, ↓op_assign, ↓op_bin, List.getD_cons_zero, List.getD_cons_succ, List.set_cons_zero, List.set_cons_succ, Bool.true_and, Bool.or_true, Nat.reduceAdd, Nat.reduceSub, Nat.reduceMul, evK_go, reduceIte, Nat.reduceEqDiff, Nat.reduceLT, true_and]
  refine OrH.l (OrH.l ⟨hpre, ?_⟩)
  refine cdK_dec (fun hc => ?_) (fun hc => ?_)
  rotate_left
  · simp (implicitDefEqProofs := false) (dsimp := false) only [covA, covB, hc, ↓aw_seq, ↓aw_ret, ↓aw_reg, ↓Qseq_n, ↓Qseq_r, ↓Qret_r, ↓ops_nil, ↓ops_cons, ↓eval_tmp, ↓eval_nil, ↓put_some, ↓op_move, ↓op_assign, ↓td_d, ↓td_nl, ↓ret_3, List.getD_cons_zero, List.getD_cons_succ, List.set_cons_zero, List.set_cons_succ, List.map_nil, Nat.reduceAdd, Nat.reduceSub, Nat.reduceMul, evK_go, reduceIte, decide_false, Bool.not_false, Nat.reduceEqDiff, Nat.reduceLT]
  have ok := mchk_ok hc
  rw [show covA left right l = coverA left.toNat right.toNat (natL l) from if_pos hc, show covB left right l = coverB left.toNat right.toNat (natL l) from if_pos hc, lnD_nat ok.rng, hc]
  have hpr := ok.pr
  have el := ok.l0
  have er := ok.r0
  have hkok := (kuhn_end ok.sides (by have := ok.rhi; omega)).ok
  have hr8 := ok.rhi
  have hl8 := ok.lhi
  clear ok hc hpre
  generalize left.toNat = a at *
  generalize right.toNat = b at *
  subst el er
  generalize natL l = L at *
  have hs := hpr.2.2.2
  have hmax : (if 1 > (a : Int) then (1 : Int) else (a : Int)) = ((max a 1 : Nat) : Int) := by split <;> omega
  have hout : max a 1 ≤ 64 ∧ L.length < 2 ^ 62 ∧ ∀ p ∈ L, p.1 < max a 1 ∧ p.2 < 64 := ⟨by omega, hpr.2.2.1, fun p hp => by have := hs p hp; omega⟩
  have ha64 : a < 64 := by omega
  obtain ⟨c1, c2, c3⟩ := CI.start (has := kuhn a b L) a b L (by omega)
  have hfin : cRun (outS (max a 1) L) (kuhn a b L) a (cStart a (kuhn a b L)) = coverS a b L := rfl
  have hkl : (kuhn a b L).length = b := hkok.len
  have hol := outS_len (max a 1) L
  have hlt : ∀ x ∈ outS (max a 1) L, x < 2 ^ 64 := outS_lt _ _ fun p hp => by have := hs p hp; omega
  simp (implicitDefEqProofs := false) (dsimp := false) only [hmax, out_callD, hout, pairs_callD, hpr, below_call, ha64, ↓nthK_H, ↓nthH_zero, ↓aw_seq, ↓aw_block, ↓aw_skip, ↓aw_loop, ↓aw_reg, ↓Qseq_n, ↓ops_nil, ↓ops_cons, ↓eval_tmp, ↓eval_int, ↓eval_func, ↓put_some, ↓put_none, ↓iK_i, ↓lenK_l, ↓ldK_p, ↓op_move, ↓op_assign, ↓op_load, ↓op_len, ↓op_max, ↓op_call, ↓op_alloc, ↓op_store, isD_d, ↓fnK_f, ↓call_H, ↓callK_H, ↓allT_nil, ↓allT_cons, ↓td_d, ↓addBox_mk, ↓setBox_mk, ↓st_bx, ↓vcells_c, ↓vcells_l, ↓vcells_nl, ↓one_i, ↓one_l, ↓vone_d, constV_i, constV_n, ↓st_p, ↓ty28, ↓sl28, ↓zb28, ↓ty87, ↓zb87, List.getD_cons_zero, List.getD_cons_succ, List.set_cons_zero, List.set_cons_succ, List.cons_append, List.nil_append, List.append_nil, List.length_cons, List.length_nil, List.length_map, List.all_cons, List.all_nil, Bool.true_and, Bool.and_self, Bool.true_or, Nat.reduceAdd, Nat.reduceSub, Nat.reduceMul, Nat.zero_add, evK_go, reduceIte, decide_true, Bool.not_true, Nat.reduceEqDiff, Nat.reduceLT, and_self, true_and, Int.zero_add]
  (repeat refine OrH.l ?_)
  refine ⟨hout.2.2, ?_⟩
  (repeat refine OrH.l ?_)
  have eA : coverA a b L = pts (dif (2 ^ a - 1) (coverS a b L).met) := rfl
  have eB : coverB a b L = pts (coverS a b L).over := rfl
  have hnx : ∀ x j, ((outS (max a 1) L).getD x default).testBit j = true → (x, j) ∈ L := fun x j h => ((outS_bit _ _ _ _).1 h).2
  have hstep : ∀ st : CS, CI a b L (kuhn a b L) st → Cl L st → st.todo ≠ [] → CI a b L (kuhn a b L) (cStep (outS (max a 1) L) (kuhn a b L) st) ∧ Cl L (cStep (outS (max a 1) L) (kuhn a b L) st) ∧ (cStep (outS (max a 1) L) (kuhn a b L) st).todo.length + Go.Aw.cnt st.met + 1 = st.todo.length + Go.Aw.cnt (cStep (outS (max a 1) L) (kuhn a b L) st).met := fun st h1 h2 h3 => CI.cStep hs (by omega) (by omega) hkok h1 h2 h3
  rw [eA, eB]
  have eS : cStart a (kuhn a b L) = ⟨met0K a (kuhn a b L) b, 0, pts (met0K a (kuhn a b L) b)⟩ := by
    unfold cStart met0K met0
    rw [List.take_of_length_le (by omega)]
  rw [eS] at c1 c2 c3 hfin
  generalize kuhn a b L = H at *
  generalize outS (max a 1) L = N at *
  generalize coverS a b L = F at *
  have hw64 := met0K_lt (left := a) (by omega) H
  simp (implicitDefEqProofs := false) (dsimp := false) only [hkl]
  refine loopW (fun k : Nat => { tm := slots 95 [(0, .d (I .i64 (a : Int))), (10, .d (.l (N.map U))), (11, .p 0 0), (12, .p 1 0), (13, .p 2 0), (36, .d (.l (H.map (I .i64)))), (37, .d (I .i64 (b : Int))), (38, .d (I .i64 k))], bx := [.d (.l (H.map (I .i64))), .d (U (met0K a H k)), .d (U 0)], rw := [] })
    (fun k => k ≤ b) (fun k => b - k) 0 (by simp) ?_ ?_
  · refine Wkn.of [0, 1, 2] [] ?_
    simp (implicitDefEqProofs := false) (dsimp := false) only [met0K, List.foldl_nil, ↓vcells_c, ↓vcells_l, List.getD_cons_zero, List.getD_cons_succ, List.set_cons_zero, List.set_cons_succ, List.length_cons, List.length_nil, Bool.and_self, Nat.reduceAdd, Nat.reduceSub, Nat.reduceMul, Nat.zero_add, List.replicate, evK_go, reduceIte, Nat.reduceEqDiff, Nat.reduceLT, and_self, Int.zero_add, List.take_zero, List.foldl_cons, List.foldl_nil, Int.cast_ofNat_Int, slots, wkL_nil, wkL_cons, wkB_nil, wkB_cons, wkR_nil, wkV_j, wkV_d, wkV_p, frz_d, pK_z, pK_s, dc_eq, reduceCtorEq]
  · intro k hk
    simp (implicitDefEqProofs := false) (dsimp := false) only [slots, ↓aw_cond, ↓aw_seq, ↓aw_reg, ↓Qseq_n, ↓ops_nil, ↓ops_cons, ↓eval_tmp, ↓put_some, ↓bK_b, ↓binE_i, ↓bi_lss, ↓op_bin, List.getD_cons_zero, List.getD_cons_succ, List.set_cons_zero, List.set_cons_succ, Nat.reduceAdd, Nat.reduceSub, Nat.reduceMul, List.replicate, evK_go, reduceIte, Nat.reduceEqDiff, Nat.reduceLT, List.foldl_cons, List.foldl_nil, Int.ofNat_lt]
    refine cdK_dec (fun h => ?_) (fun h => ?_)
    · have hkH : k < H.length := by omega
      have hms := met0K_succ a hkH
      simp (implicitDefEqProofs := false) (dsimp := false) only [hkH, ↓atK_H, ↓atH_map, ↓aw_cond, ↓aw_seq, ↓aw_block, ↓aw_skip, ↓aw_reg, ↓Qseq_n, ↓ops_nil, ↓ops_cons, ↓eval_tmp, ↓eval_int, ↓put_some, ↓bK_b, ↓iK_i, ↓binE_i, ↓bi_geq, ↓ldK_q, ↓iaK_l, ↓op_move, ↓op_assign, ↓op_load, ↓op_bin, ↓op_ia, ↓cells_c, ↓hd_cons, ↓ty3, ↓sl28, List.getD_cons_zero, List.getD_cons_succ, List.set_cons_zero, List.set_cons_succ, List.length_cons, List.length_nil, Bool.true_and, Nat.reduceAdd, Nat.reduceSub, Nat.reduceMul, Nat.zero_add, Int.toNat_natCast, evK_go, reduceIte, Nat.reduceEqDiff, Nat.reduceLT, true_and, Int.zero_add, Int.natCast_nonneg]
      refine cdK_dec (fun h1 => ?_) (fun h1 => ?_)
      · obtain ⟨x, hx1, hx2, _⟩ := hkok.nat h (by omega)
        rw [if_neg (by omega), hx2, Int.toNat_natCast] at hms
        have hx64 : x < 64 := by omega
        have hwk := hw64 k
        rw [hx2]
        simp (implicitDefEqProofs := false) (dsimp := false) only [without_call, hwk, hx64, ↓nthK_H, ↓nthH_zero, ↓aw_reg, ↓Qseq_n, ↓Qblk_n, ↓ops_nil, ↓ops_cons, ↓eval_tmp, ↓eval_int, ↓eval_func, ↓put_some, ↓put_none, ↓binE_i, ↓bi_add, ↓in_i64, ↓ldK_p, ↓op_move, ↓op_load, ↓op_bin, ↓op_call, ↓op_store, isD_d, ↓fnK_f, ↓call_H, ↓callK_H, ↓allT_nil, ↓allT_cons, ↓td_d, ↓setBox_mk, ↓st_bx, ↓vcells_c, ↓one_i, ↓vone_d, ↓st_p, ↓ty87, List.getD_cons_zero, List.getD_cons_succ, List.set_cons_zero, List.set_cons_succ, List.append_nil, List.length_cons, List.length_nil, List.all_cons, List.all_nil, Bool.true_and, Bool.and_self, Bool.true_or, Nat.reduceAdd, Nat.reduceSub, Nat.reduceMul, Nat.zero_add, evK_go, reduceIte, decide_true, Nat.reduceEqDiff, Nat.reduceLT, and_self, true_and, Int.zero_add, Int.natCast_nonneg]
        (repeat refine OrH.l ?_)
        refine ⟨by omega, k + 1, by omega, by omega, ?_⟩
        refine Wkn.of [0, 1, 2] [] ?_
        simp (implicitDefEqProofs := false) (dsimp := false) only [hms, ↓vcells_c, ↓vcells_l, List.getD_cons_zero, List.getD_cons_succ, List.set_cons_zero, List.set_cons_succ, List.length_cons, List.length_nil, Bool.and_self, Nat.reduceAdd, Nat.reduceSub, Nat.reduceMul, Nat.zero_add, List.replicate, evK_go, reduceIte, Nat.reduceEqDiff, Nat.reduceLT, and_self, Int.zero_add, List.foldl_cons, List.foldl_nil, Int.cast_ofNat_Int, Int.natCast_add, slots, wkL_nil, wkL_cons, wkB_nil, wkB_cons, wkR_nil, wkV_j, wkV_d, wkV_p, frz_d, pK_z, pK_s, reduceCtorEq]
      · rw [if_pos (by omega)] at hms
        simp (implicitDefEqProofs := false) (dsimp := false) only [↓aw_skip, ↓aw_reg, ↓Qseq_n, ↓Qblk_n, ↓ops_nil, ↓ops_cons, ↓eval_tmp, ↓eval_int, ↓put_some, ↓binE_i, ↓bi_add, ↓in_i64, ↓op_move, ↓op_bin, List.getD_cons_zero, List.getD_cons_succ, List.set_cons_zero, List.set_cons_succ, Nat.reduceAdd, Nat.reduceSub, Nat.reduceMul, evK_go, reduceIte, Nat.reduceEqDiff, Nat.reduceLT]
        refine ⟨by omega, k + 1, by omega, by omega, ?_⟩
        refine Wkn.of [0, 1, 2] [] ?_
        simp (implicitDefEqProofs := false) (dsimp := false) only [hms, ↓vcells_c, ↓vcells_l, List.getD_cons_zero, List.getD_cons_succ, List.set_cons_zero, List.set_cons_succ, List.length_cons, List.length_nil, Bool.and_self, Nat.reduceAdd, Nat.reduceSub, Nat.reduceMul, Nat.zero_add, List.replicate, evK_go, reduceIte, Nat.reduceEqDiff, Nat.reduceLT, and_self, Int.zero_add, List.foldl_cons, List.foldl_nil, Int.cast_ofNat_Int, Int.natCast_add, slots, wkL_nil, wkL_cons, wkB_nil, wkB_cons, wkR_nil, wkV_j, wkV_d, wkV_p, frz_d, pK_z, pK_s, reduceCtorEq]
    · obtain rfl : k = b := by omega
      have hwk := hw64 k
      simp (implicitDefEqProofs := false) (dsimp := false) only [list_call, hwk, rflat_I, ↓nthK_H, ↓nthH_zero, ↓aw_seq, ↓aw_block, ↓aw_exit, ↓aw_loop, ↓aw_reg, ↓Qseq_n, ↓Qseq_x, ↓Qblk_x, ↓ops_nil, ↓ops_cons, ↓eval_tmp, ↓eval_func, ↓put_some, ↓put_none, ↓ldK_p, ↓op_load, ↓op_call, ↓op_alloc, ↓op_store, isD_d, ↓fnK_f, ↓call_H, ↓callK_H, ↓allT_nil, ↓allT_cons, ↓td_d, ↓addBox_mk, ↓addRow_mk, ↓setBox_mk, ↓st_bx, ↓st_rw, ↓vcells_c, ↓vcells_nl, ↓vcells_o, ↓vone_o, constV_n, ↓st_p, ↓ty28, ↓zb28, ↓ty87, List.getD_cons_zero, List.getD_cons_succ, List.set_cons_zero, List.set_cons_succ, List.cons_append, List.nil_append, List.append_nil, List.length_cons, List.length_nil, List.length_map, List.all_cons, List.all_nil, Bool.true_and, Bool.and_self, Bool.or_true, Nat.reduceAdd, Nat.reduceSub, Nat.reduceMul, Nat.zero_add, evK_go, reduceIte, decide_false, Nat.reduceEqDiff, Nat.reduceLT, and_self, true_and, Nat.lt_irrefl, Int.zero_add]
      (repeat refine OrH.l ?_)
      refine loopW (fun st : RM => { tm := slots 95 [(0, .d (I .i64 (a : Int))), (10, .d (.l (N.map U))), (11, .p 0 0), (12, .p 1 0), (13, .p 2 0), (16, .p 3 0)], bx := [.d (.l (H.map (I .i64))), .d (U st.s.met), .d (U st.s.over), .o 0 st.pre.length st.s.todo.length], rw := [some ⟨1, (st.pre ++ st.s.todo).map nD⟩] })
        (fun st => CI a k L H st.s ∧ Cl L st.s ∧ st.s.todo.length + (a - Go.Aw.cnt st.s.met) ≤ st.m ∧ cRun N H st.m st.s = F ∧ st.m ≤ a) (fun st => st.m) ⟨a, ⟨met0K a H k, 0, pts (met0K a H k)⟩, []⟩ ⟨c1, c2, c3, hfin, Nat.le_refl _⟩ ?_ ?_
      · refine Wkn.of [0, 1, 2, 3] [some 0] ?_
        simp (implicitDefEqProofs := false) (dsimp := false) only [ptsI, List.map_map, ↓vcells_c, ↓vcells_l, ↓vcells_o, List.getD_cons_zero, List.getD_cons_succ, List.set_cons_zero, List.set_cons_succ, List.nil_append, List.length_cons, List.length_nil, List.length_map, Bool.and_true, Bool.true_and, Bool.and_self, Nat.reduceAdd, Nat.reduceSub, Nat.reduceMul, Nat.zero_add, List.replicate, evK_go, reduceIte, Nat.reduceEqDiff, Nat.reduceLT, and_self, true_and, and_true, Int.zero_add, List.foldl_cons, List.foldl_nil, Int.cast_ofNat_Int, slots, wkL_nil, wkL_cons, wkB_nil, wkB_cons, wkR_nil, wkR_some, wkV_j, wkV_d, wkV_o, wkV_p, frz_d, oK_zs, pK_z, pK_s, reduceCtorEq, Option.some.injEq]
        rfl
      · rintro ⟨m, s, pre⟩ ⟨i1, i2, i3, i4, i5⟩
        simp only at i1 i2 i3 i4 i5
        obtain ⟨met, over, todo⟩ := s
        have hm64 : met < 2 ^ 64 := bits64 i1.metLt (by omega)
        have ho64 : over < 2 ^ 64 := bits64 i1.overLt (by omega)
        simp (implicitDefEqProofs := false) (dsimp := false) only [slots, ↓optK_some, ↓rwK_mk_, ↓nthK_H, ↓nthH_zero, ↓aw_cond, ↓aw_seq, ↓aw_reg, ↓Qseq_n, ↓ops_nil, ↓ops_cons, ↓eval_tmp, ↓eval_int, ↓put_some, ↓bK_b, ↓lenK_o, ↓binE_i, ↓bi_gtr, ↓ldK_p, ↓op_load, ↓op_bin, ↓op_len, ↓vcells_o, ↓ty28, ↓sl28, List.getD_cons_zero, List.getD_cons_succ, List.set_cons_zero, List.set_cons_succ, Nat.reduceAdd, Nat.reduceSub, Nat.reduceMul, List.replicate, evK_go, reduceIte, Nat.reduceEqDiff, Nat.reduceLT, List.foldl_cons, List.foldl_nil]
        cases todo with
        | nil =>
          have e0 : F = ⟨met, over, []⟩ := by
            rw [← i4]
            cases m with
            | zero => rfl
            | succ m => exact if_pos rfl
          refine cdK_dec (fun h1 => by simp at h1) (fun h1 => ?_)
          subst e0
          have hw0 : 2 ^ a - 1 < 2 ^ 64 := by
            have h1 := Nat.one_le_two_pow (n := a)
            have h2 : 2 ^ a ≤ 2 ^ 64 := Nat.pow_le_pow_right (by omega) (by omega)
            omega
          have hdw := dif_lt (n := met) hw0
          simp (implicitDefEqProofs := false) (dsimp := false) only [below_callQ, ha64, hm64, ho64, hw0, hdw, list_callDQ, eval_nilI, ↓nthK_H, ↓nthH_zero, ↓aw_seq, ↓aw_exit, ↓aw_ret, ↓aw_draw, ↓Qseq_n, ↓Qseq_x, ↓Qblk_x, ↓Qret_r, ↓eval_tmp, ↓eval_func, ↓put_some, ↓ev_move, ↓ev_assign, ↓ev_load, ↓ev_bin, ↓binE_i, ↓bi_andNot, ↓ldK_p, isD_d, ↓fnK_f, ↓callKQ_H, ↓allT_nil, ↓allT_cons, ↓td_d, ↓ret_3, ↓draw_H, ↓h_nil, ↓h_cons, ↓ldH_n, ↓q_call, ↓q_move, ↓q_assign, ↓q_load, ↓q_bin, ↓il_move, ↓il_assign, ↓il_load, ↓il_bin, ↓il_call, ↓vcells_c, ↓ty87, List.getD_cons_zero, List.getD_cons_succ, List.set_cons_zero, List.set_cons_succ, List.append_nil, List.length_nil, List.all_cons, List.all_nil, Bool.true_and, Bool.and_self, Bool.true_or, Nat.reduceAdd, Nat.reduceSub, Nat.reduceMul, evK_go, reduceIte, Nat.reduceEqDiff, Nat.reduceLT, and_self, true_and, Int.cast_ofNat_Int]
          refine OrH.l ⟨DrawH.of follows_mixed (by kernel_rfl), ?_⟩
          (repeat refine OrH.l ?_)
          simp (implicitDefEqProofs := false) (dsimp := false) only [nD_ints, ptsI, erD_0]
        | cons x t =>
          refine cdK_dec (fun h1 => ?_) (fun h1 => absurd h1 (by simp))
          have hst := hstep ⟨met, over, x :: t⟩ i1 i2 (by simp)
          have hxa : x < a := i1.metLt x (i1.todo x (by simp))
          have hxN : x < N.length := by omega
          have hnb := hlt _ (getD_mem hxN)
          have hd := dif_lt (n := over) hnb
          simp (implicitDefEqProofs := false) (dsimp := false) only [List.length_cons, List.map_append, List.map_cons, nD, hxN, hnb, ho64, each_callQ, ↓optK_some, ↓rwK_mk_, ↓atK_H, ↓atH_map, ↓atH_appmap, ↓nthK_H, ↓nthH_zero, ↓aw_seq, ↓aw_block, ↓aw_skip, ↓aw_rng, ↓aw_draw, ↓Qseq_n, ↓eval_tmp, ↓eval_int, ↓eval_func, ↓put_some, ↓iK_i, ↓ev_move, ↓ev_load, ↓ev_bin, ↓ev_ia, ↓binE_i, ↓bi_andNot, ↓ldK_q, ↓ldK_p, ↓ldK_e, ↓iaK_l, ↓iaK_o, isD_d, ↓fnK_f, ↓callKQ_H, ↓allT_nil, ↓allT_cons, ↓td_d, ↓draw_H, ↓h_nil, ↓h_cons, ↓ldH_n, ↓q_call, ↓q_move, ↓q_load, ↓q_bin, ↓q_ia, ↓il_move, ↓il_load, ↓il_bin, ↓il_ia, ↓il_call, ↓row_sz, ↓row_xs, ↓cells_c, ↓vcells_c, ↓vcells_o, ↓hd_cons, ↓ty3, ↓ty28, ↓sl28, ↓sl84, ↓ty87, List.getD_cons_zero, List.getD_cons_succ, List.set_cons_zero, List.set_cons_succ, List.append_nil, List.map_cons, List.length_cons, List.length_nil, List.all_cons, List.all_nil, Bool.true_and, Bool.and_self, Bool.true_or, Nat.reduceAdd, Nat.reduceSub, Nat.reduceMul, Nat.zero_add, Nat.add_zero, Int.toNat_natCast, Int.toNat_zero, evK_go, reduceIte, Nat.reduceEqDiff, Nat.reduceLT, and_self, true_and, Int.zero_add, Int.cast_ofNat_Int, Int.natCast_add, Int.natCast_nonneg]
          refine OrH.l ⟨DrawH.of follows_mixed (by kernel_rfl), ⟨by omega, by omega⟩, ?_⟩
          (repeat refine OrH.l ?_)
          have hcm : ∀ j ∈ pts (dif (N.getD x default) over), (x, j) ∈ L := fun j hj => by
            have h3 := ((pts_mem _ _).1 hj).2
            rw [dif_bit, Bool.and_eq_true] at h3
            exact hnx x j h3.1
          refine rangeW (slots 95 [(0, .d (I .i64 (a : Int))), (10, .d (.l (N.map U))), (11, .p 0 0), (12, .p 1 0), (13, .p 2 0), (16, .p 3 0), (63, .d (.f (.func 99) [.q [U (dif (N.getD x default) over)]]))])
            (fun st : RC => [.d (.l (H.map (I .i64))), .d (U st.met), .d (U st.over), .o 0 st.pre.length st.q.length]) (fun st : RC => [some ⟨1, (st.pre ++ st.q).map nD⟩])
            (fun ys st => ∃ P : List Nat, ys = P.map Int.ofNat ∧ (⟨st.met, st.over, st.q⟩ : CS) = P.foldl (cJ H) ⟨met, over, x :: t⟩ ∧ st.met < 2 ^ 64 ∧ st.over < 2 ^ 64 ∧ st.q.length ≤ t.length + 1 + P.length ∧ 1 ≤ st.q.length) ⟨met, over, pre, x :: t⟩
            (by simp [slots]) (each_iter _ hd) ?_ ⟨[], rfl, rfl, hm64, ho64, by simp, by simp⟩ ?_ ?_ ?_
          · simp (implicitDefEqProofs := false) (dsimp := false) only [slots, ↓eval_tmp, List.getD_cons_zero, List.getD_cons_succ, List.set_cons_zero, List.set_cons_succ, Nat.reduceAdd, Nat.reduceSub, Nat.reduceMul, List.replicate, evK_go, reduceIte, Nat.reduceEqDiff, Nat.reduceLT, List.foldl_cons, List.foldl_nil]
          · refine Wkn.of [0, 1, 2, 3] [some 0] ?_
            simp (implicitDefEqProofs := false) (dsimp := false) only [nD, List.map_append, List.map_cons, List.length_cons, ↓vcells_c, ↓vcells_l, ↓vcells_o, List.getD_cons_zero, List.getD_cons_succ, List.set_cons_zero, List.set_cons_succ, List.map_cons, List.length_cons, List.length_nil, Bool.and_self, Nat.reduceAdd, Nat.reduceSub, Nat.reduceMul, Nat.zero_add, List.replicate, evK_go, reduceIte, Nat.reduceEqDiff, Nat.reduceLT, and_self, Int.zero_add, List.foldl_cons, List.foldl_nil, slots, wkL_nil, wkL_cons, wkB_nil, wkB_cons, wkR_nil, wkR_some, wkV_j, wkV_d, wkV_o, wkV_p, frz_d, oK_zs, pK_z, pK_s, reduceCtorEq]
          · rintro ys y ⟨met', over', pre', q'⟩ hpx ⟨P, rfl, hP1, hm', ho', hq', hq1⟩
            obtain ⟨P', c, hP, rfl, hcc⟩ := prefix_map hpx
            obtain rfl : P = P' := ofNat_inj hP
            simp only at hP1 hm' ho' hq' hq1
            have hcb : c < k := (hs _ (hcm c (hcc.subset (by simp : c ∈ P ++ [c])))).2
            have hcH : c < H.length := by omega
            have hc64 : c < 64 := by omega
            have hPl : P.length + 1 ≤ 64 := by
              have h3 := hcc.length_le
              have h4 := pts_len (dif (N.getD x default) over)
              simp (implicitDefEqProofs := false) (dsimp := false) only [List.length_append, List.length_cons, List.length_nil] at h3
              omega
            have hq64 : t.length + 1 ≤ 64 := by simp (implicitDefEqProofs := false) (dsimp := false) only [List.length_cons] at i3; omega
            have hfold : (P ++ [c]).foldl (cJ H) ⟨met, over, x :: t⟩ = cJ H ⟨met', over', q'⟩ c := by rw [List.foldl_append, ← hP1]; rfl
            have hor : over' ||| 2 ^ c < 2 ^ 64 := Nat.or_lt_two_pow ho' (Nat.pow_lt_pow_right (by omega) hc64)
            simp (implicitDefEqProofs := false) (dsimp := false) only [slots, with_call, ho', hc64, hcH, ↓gdK_t, ↓gval_mk, ↓gvL_zero, ↓gvL_succ, ↓atK_H, ↓atH_map, ↓nthK_H, ↓nthH_zero, ↓aw_seq, ↓aw_block, ↓aw_reg, ↓Qseq_n, ↓ops_nil, ↓ops_cons, ↓ops_guard, ↓eval_tmp, ↓eval_int, ↓eval_func, ↓put_some, ↓put_none, ↓iK_i, ↓binE_i, ↓bi_geq, ↓ldK_q, ↓ldK_p, ↓iaK_l, ↓op_move, ↓op_assign, ↓op_load, ↓op_bin, ↓op_ia, ↓op_call, ↓op_store, isD_d, ↓fnK_f, ↓call_H, ↓callK_H, ↓allT_nil, ↓allT_cons, ↓td_d, ↓setBox_mk, ↓st_tm, ↓st_bx, ↓cells_c, ↓vcells_c, ↓vcells_l, ↓one_i, ↓vone_d, ↓st_p, ↓hd_cons, ↓Qn_n, ↓ty3, ↓ty28, ↓sl28, ↓ty87, List.getD_cons_zero, List.getD_cons_succ, List.set_cons_zero, List.set_cons_succ, List.append_nil, List.length_cons, List.length_nil, List.all_cons, List.all_nil, Bool.true_and, Bool.and_self, Bool.true_or, Nat.reduceAdd, Nat.reduceSub, Nat.reduceMul, Nat.zero_add, Int.toNat_natCast, List.replicate, evK_go, reduceIte, Nat.reduceEqDiff, Nat.reduceLT, and_self, true_and, Int.zero_add, List.foldl_cons, List.foldl_nil, Int.natCast_nonneg]
            refine OrH.l (OrH.l (cdK_dec (fun h3 => ?_) (fun h3 => ?_)))
            · obtain ⟨z, hz1, hz2, _⟩ := hkok.nat hcb (by omega)
              have hd3 : decide (0 ≤ H.getD c default) = true := decide_eq_true h3
              have hz64 : z < 64 := by omega
              have hz64' : z ≤ 64 := by omega
              rw [hz2] at hd3 ⊢
              simp (implicitDefEqProofs := false) (dsimp := false) only [hasS_call, hm', hz64', ↓cdK_true, ↓cdK_not, ↓gdK_t, ↓gval_mk, ↓gvL_zero, ↓gvL_succ, ↓nthK_H, ↓nthH_zero, ↓aw_cond, ↓Qseq_n, ↓ops_nil, ↓ops_cons, ↓ops_guard, ↓eval_tmp, ↓eval_func, ↓put_some, ↓bK_b, ↓ldK_p, ↓op_move, ↓op_pick, ↓op_load, ↓op_not, ↓op_call, isD_d, ↓fnK_f, ↓call_H, ↓callK_H, ↓allT_nil, ↓allT_cons, ↓td_d, ↓st_tm, ↓vcells_c, ↓ty87, List.getD_cons_zero, List.getD_cons_succ, List.set_cons_zero, List.set_cons_succ, List.append_nil, List.all_cons, List.all_nil, Bool.true_and, Bool.and_self, Bool.true_or, Nat.reduceAdd, Nat.reduceSub, Nat.reduceMul, evK_go, reduceIte, decide_true, Nat.reduceEqDiff, Nat.reduceLT, and_self, true_and, Int.natCast_nonneg]
              refine OrH.l (OrH.l (cdK_split (fun h4 => ?_) (fun h4 => ?_)))
              · have e : cJ H ⟨met', over', q'⟩ c = ⟨met', over' ||| 2 ^ c, q'⟩ := by
                  unfold cJ
                  rw [if_neg (by omega), if_pos (by rw [hz2, Int.toNat_natCast]; exact h4)]
                rw [e] at hfold
                simp (implicitDefEqProofs := false) (dsimp := false) only [↓aw_skip, ↓Qblk_n, ↓Qrd_n, ↓back_mk, Nat.reduceAdd, Nat.reduceSub, Nat.reduceMul, evK_go, reduceIte, Nat.reduceEqDiff, Nat.reduceLT]
                refine ⟨⟨met', over' ||| 2 ^ c, pre', q'⟩, ⟨P ++ [c], by simp, hfold.symm, hm', hor, by simp; omega, hq1⟩, ?_⟩
                refine Wkn.of [0, 1, 2, 3] [some 0] ?_
                simp (implicitDefEqProofs := false) (dsimp := false) only [↓vcells_c, ↓vcells_l, ↓vcells_o, List.getD_cons_zero, List.getD_cons_succ, List.set_cons_zero, List.set_cons_succ, List.length_cons, List.length_nil, Bool.and_self, Nat.reduceAdd, Nat.reduceSub, Nat.reduceMul, Nat.zero_add, List.replicate, evK_go, reduceIte, Nat.reduceEqDiff, Nat.reduceLT, and_self, Int.zero_add, List.foldl_cons, List.foldl_nil, slots, wkL_nil, wkL_cons, wkB_nil, wkB_cons, wkR_nil, wkR_some, wkV_j, wkV_d, wkV_o, wkV_p, frz_d, oK_zs, pK_z, pK_s, reduceCtorEq]
              · have e : cJ H ⟨met', over', q'⟩ c = ⟨met' ||| 2 ^ z, over' ||| 2 ^ c, q' ++ [z]⟩ := by
                  unfold cJ
                  rw [if_neg (by omega), hz2, Int.toNat_natCast, if_neg (by rw [h4]; decide)]
                rw [e] at hfold
                have hmz : met' ||| 2 ^ z < 2 ^ 64 := Nat.or_lt_two_pow hm' (Nat.pow_lt_pow_right (by omega) hz64)
                simp (implicitDefEqProofs := false) (dsimp := false) only [h4, with_call, hm', hz64, ↓optK_some, ↓rwK_mk_, ↓nthK_H, ↓nthH_zero, ↓aw_seq, ↓aw_reg, ↓Qseq_n, ↓Qblk_n, ↓ops_nil, ↓ops_cons, ↓eval_tmp, ↓eval_func, ↓put_some, ↓put_none, ↓dK_d, ↓ldK_p, ↓op_move, ↓op_load, ↓op_append, ↓op_call, ↓op_store, isD_d, ↓fnK_f, ↓call_H, ↓callK_H, ↓allT_nil, ↓allT_cons, ↓allD_nil, ↓allD_cons, ↓td_d, ↓setBox_mk, ↓app_mk, ↓st_bx, ↓row_sz, ↓row_xs, kill_d, kill_j, kill_p, kill_o, ↓cells_c, ↓vcells_c, ↓vcells_j, ↓vcells_o, ↓one_i, ↓vone_d, ↓vone_o, ↓st_p, ↓ap_, ↓ap_o, ↓src_l, ↓bs_, ↓op_bs, ↓bsL_f, ↓stored_mk, ↓sl_nil, ↓sl_cons, ↓st_store_t, ↓sT_move, ↓sT_load, ↓sT_bs, ↓sT_call, ↓beq_some, ↓vsz_int, ↓inO_1, ↓fm_nil, ↓fm_cons, ↓Qrd_n, ↓back_mk, ↓ty3, ↓zb3, ↓ty28, ↓sl28, ↓ty87, List.getD_cons_zero, List.getD_cons_succ, List.set_cons_zero, List.set_cons_succ, List.append_nil, List.map_cons, List.map_nil, List.length_cons, List.length_nil, List.length_map, List.all_cons, List.all_nil, Bool.true_and, Bool.and_self, Bool.true_or, Bool.or_false, Nat.reduceAdd, Nat.reduceSub, Nat.reduceMul, Nat.zero_add, evK_go, reduceIte, decide_false, Bool.not_false, Nat.reduceEqDiff, Nat.reduceLT, and_self, true_and, Int.zero_add]
                have edr : List.drop pre'.length (List.map nD pre' ++ List.map nD q') = List.map nD q' := drop_appmap _ _ _
                refine OrH.l (OrH.l ⟨by decide, ⟨by simp, by simp, by omega, by omega⟩, ⟨met' ||| 2 ^ z, over' ||| 2 ^ c, [], q' ++ [z]⟩, ⟨P ++ [c], by simp, hfold.symm, hmz, hor, by simp; omega, by simp⟩, ?_⟩)
                refine Wkn.of [0, 1, 2, 3] [some 0] ?_
                simp (implicitDefEqProofs := false) (dsimp := false) only [edr, nD, List.map_append, List.length_append, ↓vcells_c, ↓vcells_l, ↓vcells_o, List.getD_cons_zero, List.getD_cons_succ, List.set_cons_zero, List.set_cons_succ, List.nil_append, List.map_cons, List.map_nil, List.length_cons, List.length_nil, Bool.and_self, Nat.reduceAdd, Nat.reduceSub, Nat.reduceMul, Nat.zero_add, List.replicate, evK_go, reduceIte, Nat.reduceEqDiff, Nat.reduceLT, and_self, Int.zero_add, List.foldl_cons, List.foldl_nil, slots, wkL_nil, wkL_cons, wkB_nil, wkB_cons, wkR_nil, wkR_some, wkV_j, wkV_d, wkV_o, wkV_p, frz_d, oK_zs, pK_z, pK_s, reduceCtorEq]
            · have hd3 : decide (0 ≤ H.getD c default) = false := decide_eq_false h3
              have e : cJ H ⟨met', over', q'⟩ c = ⟨met', over' ||| 2 ^ c, q'⟩ := by
                unfold cJ
                rw [if_pos (by omega)]
              rw [e] at hfold
              simp (implicitDefEqProofs := false) (dsimp := false) only [hd3, ↓cdK_false, ↓gdK_t, ↓gval_mk, ↓gvL_zero, ↓gvL_succ, ↓aw_cond, ↓aw_skip, ↓Qseq_n, ↓Qblk_n, ↓ops_nil, ↓ops_cons, ↓ops_guard, ↓eval_tmp, ↓eval_bool, ↓put_some, ↓bK_b, ↓op_pick, ↓st_tm, ↓Qrd_n, ↓back_mk, List.getD_cons_zero, List.getD_cons_succ, List.set_cons_zero, List.set_cons_succ, Nat.reduceAdd, Nat.reduceSub, Nat.reduceMul, evK_go, reduceIte, Nat.reduceEqDiff, Nat.reduceLT]
              refine ⟨⟨met', over' ||| 2 ^ c, pre', q'⟩, ⟨P ++ [c], by simp, hfold.symm, hm', hor, by simp; omega, hq1⟩, ?_⟩
              refine Wkn.of [0, 1, 2, 3] [some 0] ?_
              simp (implicitDefEqProofs := false) (dsimp := false) only [↓vcells_c, ↓vcells_l, ↓vcells_o, List.getD_cons_zero, List.getD_cons_succ, List.set_cons_zero, List.set_cons_succ, List.length_cons, List.length_nil, Bool.and_self, Nat.reduceAdd, Nat.reduceSub, Nat.reduceMul, Nat.zero_add, List.replicate, evK_go, reduceIte, Nat.reduceEqDiff, Nat.reduceLT, and_self, Int.zero_add, List.foldl_cons, List.foldl_nil, slots, wkL_nil, wkL_cons, wkB_nil, wkB_cons, wkR_nil, wkR_some, wkV_j, wkV_d, wkV_o, wkV_p, frz_d, oK_zs, pK_z, pK_s, reduceCtorEq]
          · rintro ⟨met', over', pre', q'⟩ ⟨P, hP, hP1, hm', ho', hq', hq1⟩
            obtain rfl : pts (dif (N.getD x default) over) = P := ofNat_inj hP
            simp only at hP1 hm' ho' hq' hq1
            have hcs : cStep N H ⟨met, over, x :: t⟩ = ⟨met', over', q'.drop 1⟩ := by
              show (⟨(cIn N H ⟨met, over, x :: t⟩ x).met, (cIn N H ⟨met, over, x :: t⟩ x).over, (cIn N H ⟨met, over, x :: t⟩ x).todo.drop 1⟩ : CS) = _
              have : cIn N H ⟨met, over, x :: t⟩ x = ⟨met', over', q'⟩ := hP1.symm
              rw [this]
            rw [hcs] at hst
            simp (implicitDefEqProofs := false) (dsimp := false) only [slots, ↓optK_some, ↓rwK_mk_, ↓nthK_H, ↓nthH_zero, ↓aw_seq, ↓aw_reg, ↓Qseq_n, ↓Qblk_n, ↓ops_nil, ↓ops_cons, ↓eval_tmp, ↓eval_int, ↓put_some, ↓put_none, ↓iK_i, ↓optI_none, ↓optI_some, ↓ldK_p, ↓sliK_o, ↓op_load, ↓op_slice, ↓op_alloc, ↓op_store, ↓addBox_mk, ↓setBox_mk, ↓st_bx, ↓row_sz, ↓vcells_nl, ↓vcells_o, ↓vone_o, constV_n, ↓st_p, ↓ty3, ↓ty28, ↓sl28, ↓zb28, List.getD_cons_zero, List.getD_cons_succ, List.set_cons_zero, List.set_cons_succ, List.cons_append, List.nil_append, List.length_cons, List.length_nil, List.all_cons, List.all_nil, Bool.true_and, Bool.and_self, Nat.reduceAdd, Nat.reduceSub, Nat.reduceMul, Nat.zero_add, Int.toNat_one, List.replicate, evK_go, reduceIte, Nat.reduceEqDiff, Nat.reduceLT, and_self, true_and, Option.getD_none, Option.getD_some, Int.zero_add, List.foldl_cons, List.foldl_nil, Int.ofNat_le]
            obtain ⟨y, q'', rfl⟩ : ∃ y q'', q' = y :: q'' := by
              cases q' with
              | nil => simp at hq1
              | cons y q'' => exact ⟨y, q'', rfl⟩
            simp (implicitDefEqProofs := false) (dsimp := false) only [List.drop_succ_cons, List.drop_zero] at hst hcs
            obtain ⟨g1, g2, g3⟩ := hst
            simp (implicitDefEqProofs := false) (dsimp := false) only [List.length_cons] at g3 i3
            have g4 := g1.cnt
            simp only at g4
            cases m with
            | zero => omega
            | succ m =>
              have i6 : cRun N H m ⟨met', over', q''⟩ = F := by
                rw [← i4, ← hcs]
                show _ = if _ then _ else _
                rw [if_neg (by simp)]
              have i7 : t.length + 1 + (a - Go.Aw.cnt met) ≤ m + 1 := i3
              refine ⟨⟨by omega, by rw [List.length_cons]; omega, Nat.le_refl _⟩, ⟨m, ⟨met', over', q''⟩, pre' ++ [y]⟩, ⟨g1, g2, ?_, i6, by show m ≤ a; omega⟩, Nat.lt_succ_self m, ?_⟩
              · show q''.length + (a - Go.Aw.cnt met') ≤ m
                omega
              · refine Wkn.of [0, 1, 2, 4] [some 0] ?_
                simp (implicitDefEqProofs := false) (dsimp := false) only [List.length_append, List.length_cons, ↓vcells_c, ↓vcells_l, ↓vcells_o, List.getD_cons_zero, List.getD_cons_succ, List.length_cons, List.length_nil, Bool.and_true, Bool.true_and, Bool.and_self, Nat.reduceAdd, Nat.reduceSub, Nat.reduceMul, Nat.zero_add, evK_go, reduceIte, Nat.reduceEqDiff, Nat.reduceLT, and_self, true_and, and_true, Int.zero_add, Int.cast_ofNat_Int, Int.natCast_add, slots, wkL_nil, wkL_cons, wkB_nil, wkB_cons, wkR_nil, wkR_some, wkV_j, wkV_d, wkV_o, wkV_p, frz_d, oK_zs, pK_z, pK_s, vo_eq, reduceCtorEq, Option.some.injEq]
                exact ⟨by omega, by simp⟩
theorem cover_call (left right : Int) (l : List (Int × Int)) (pure : Bool) (σ : St) (dst : Option Tmp) (K : St → Prop) : CallH Try.prog 28 [I .i64 left, I .i64 right, .l (l.map lnD)] pure σ dst (.mk : Hid K) = OrH ((l.length < 2 ^ 62) ∧ (pure || D.flat (.t [.l ((covA left right l).map nD), .l ((covB left right l).map nD), erD (mchk left right l)])) = true ∧ evK (σ.put dst (.d (.t [.l ((covA left right l).map nD), .l ((covB left right l).map nD), erD (mchk left right l)]))) (.mk : Hid K)) (.mk : Hid (CallH Try.prog 28 [I .i64 left, I .i64 right, .l (l.map lnD)] pure σ dst (.mk : Hid K))) := CallH.eq (cover_spec left right l) pure σ dst K
theorem cover_callQ (left right : Int) (l : List (Int × Int)) (pure : Bool) (C : V → Prop) : CallQ Try.prog 28 [I .i64 left, I .i64 right, .l (l.map lnD)] pure (.mk : Hid C) = OrH ((l.length < 2 ^ 62) ∧ (pure || D.flat (.t [.l ((covA left right l).map nD), .l ((covB left right l).map nD), erD (mchk left right l)])) = true ∧ evK (V.d (.t [.l ((covA left right l).map nD), .l ((covB left right l).map nD), erD (mchk left right l)])) (.mk : Hid C)) (.mk : Hid (CallQ Try.prog 28 [I .i64 left, I .i64 right, .l (l.map lnD)] pure (.mk : Hid C))) := CallQ.eq (cover_spec left right l) pure C
def mfL : List (Int × Int) := [(0, 0), (1, 0)]
theorem mf1_spec  : FnD Try.prog 27 [I .i64 2, I .i64 1, .l [.s [I .i64 0, I .i64 0], .s [I .i64 1, I .i64 0]]] (.t [I .i64 1, erD 0]) := by
  have h := most_spec 2 1 mfL (by decide)
  rw [show mostR 2 1 mfL = 1 by decide +kernel, show mchk 2 1 mfL = 0 by decide +kernel] at h
  exact h
theorem mf1_call  (pure : Bool) (σ : St) (dst : Option Tmp) (K : St → Prop) : CallH Try.prog 27 [I .i64 2, I .i64 1, .l [.s [I .i64 0, I .i64 0], .s [I .i64 1, I .i64 0]]] pure σ dst (.mk : Hid K) = OrH ((pure || D.flat (.t [I .i64 1, erD 0])) = true ∧ evK (σ.put dst (.d (.t [I .i64 1, erD 0]))) (.mk : Hid K)) (.mk : Hid (CallH Try.prog 27 [I .i64 2, I .i64 1, .l [.s [I .i64 0, I .i64 0], .s [I .i64 1, I .i64 0]]] pure σ dst (.mk : Hid K))) := CallH.eq0 (mf1_spec ) pure σ dst K
theorem mf1_callQ  (pure : Bool) (C : V → Prop) : CallQ Try.prog 27 [I .i64 2, I .i64 1, .l [.s [I .i64 0, I .i64 0], .s [I .i64 1, I .i64 0]]] pure (.mk : Hid C) = OrH ((pure || D.flat (.t [I .i64 1, erD 0])) = true ∧ evK (V.d (.t [I .i64 1, erD 0])) (.mk : Hid C)) (.mk : Hid (CallQ Try.prog 27 [I .i64 2, I .i64 1, .l [.s [I .i64 0, I .i64 0], .s [I .i64 1, I .i64 0]]] pure (.mk : Hid C))) := CallQ.eq0 (mf1_spec ) pure C
theorem mf2_spec  : FnD Try.prog 28 [I .i64 2, I .i64 1, .l [.s [I .i64 0, I .i64 0], .s [I .i64 1, I .i64 0]]] (.t [.l [], .l [I .i64 0], erD 0]) := by
  have h := cover_spec 2 1 mfL (by decide)
  rw [show covA 2 1 mfL = [] by decide +kernel, show covB 2 1 mfL = [0] by decide +kernel, show mchk 2 1 mfL = 0 by decide +kernel] at h
  exact h
theorem mf2_call  (pure : Bool) (σ : St) (dst : Option Tmp) (K : St → Prop) : CallH Try.prog 28 [I .i64 2, I .i64 1, .l [.s [I .i64 0, I .i64 0], .s [I .i64 1, I .i64 0]]] pure σ dst (.mk : Hid K) = OrH ((pure || D.flat (.t [.l [], .l [I .i64 0], erD 0])) = true ∧ evK (σ.put dst (.d (.t [.l [], .l [I .i64 0], erD 0]))) (.mk : Hid K)) (.mk : Hid (CallH Try.prog 28 [I .i64 2, I .i64 1, .l [.s [I .i64 0, I .i64 0], .s [I .i64 1, I .i64 0]]] pure σ dst (.mk : Hid K))) := CallH.eq0 (mf2_spec ) pure σ dst K
theorem mf2_callQ  (pure : Bool) (C : V → Prop) : CallQ Try.prog 28 [I .i64 2, I .i64 1, .l [.s [I .i64 0, I .i64 0], .s [I .i64 1, I .i64 0]]] pure (.mk : Hid C) = OrH ((pure || D.flat (.t [.l [], .l [I .i64 0], erD 0])) = true ∧ evK (V.d (.t [.l [], .l [I .i64 0], erD 0])) (.mk : Hid C)) (.mk : Hid (CallQ Try.prog 28 [I .i64 2, I .i64 1, .l [.s [I .i64 0, I .i64 0], .s [I .i64 1, I .i64 0]]] pure (.mk : Hid C))) := CallQ.eq0 (mf2_spec ) pure C
theorem mf3_spec  : FnD Try.prog 44 [.l [I .i64 0], .l [I .i64 0]] (Bo true) := by
  have h := ints_spec [0] [0] (by decide)
  exact h
theorem mf3_call  (pure : Bool) (σ : St) (dst : Option Tmp) (K : St → Prop) : CallH Try.prog 44 [.l [I .i64 0], .l [I .i64 0]] pure σ dst (.mk : Hid K) = OrH ((pure || D.flat (Bo true)) = true ∧ evK (σ.put dst (.d (Bo true))) (.mk : Hid K)) (.mk : Hid (CallH Try.prog 44 [.l [I .i64 0], .l [I .i64 0]] pure σ dst (.mk : Hid K))) := CallH.eq0 (mf3_spec ) pure σ dst K
theorem mf3_callQ  (pure : Bool) (C : V → Prop) : CallQ Try.prog 44 [.l [I .i64 0], .l [I .i64 0]] pure (.mk : Hid C) = OrH ((pure || D.flat (Bo true)) = true ∧ evK (V.d (Bo true)) (.mk : Hid C)) (.mk : Hid (CallQ Try.prog 44 [.l [I .i64 0], .l [I .i64 0]] pure (.mk : Hid C))) := CallQ.eq0 (mf3_spec ) pure C
theorem mfact_spec  : FnD Try.prog 26 [] (Bo true) := by
  refine FnD.go Try.func26 rfl rfl Try.results26 Try.ntmps26 ?_
  simp (implicitDefEqProofs := false) (dsimp := false) only [↓aw_seq, ↓aw_reg, ↓Qseq_n, ↓ops_nil, ↓ops_cons, ↓eval_tmp, ↓eval_int, ↓eval_bool, ↓eval_func, ↓put_some, ↓dK_d, ↓op_move, ↓op_assign, ↓op_build, ↓op_call, isD_d, ↓fnK_f, ↓call_H, ↓callK_H, ↓allT_nil, ↓allT_cons, ↓allD_nil, ↓allD_cons, ↓td_d, ↓cells_c, ↓cells_s, ↓one_i, ↓bs_, ↓op_bs, ↓bsL_f, ↓stored_mk, ↓sl_nil, ↓sl_cons, ↓sT_assign, ↓sT_build, ↓sT_bs, ↓vsz_agg, ↓inO_2, ↓fm_nil, ↓fm_cons, ↓sl22, ↓ty35, ↓zb35, ↓bd35, List.getD_cons_zero, List.getD_cons_succ, List.set_cons_zero, List.set_cons_succ, List.cons_append, List.nil_append, List.append_nil, List.map_cons, List.map_nil, List.length_cons, List.length_nil, List.all_cons, List.all_nil, Bool.true_and, Bool.and_self, Bool.or_false, Nat.reduceAdd, Nat.reduceSub, Nat.reduceMul, Nat.zero_add, List.replicate, evK_go, reduceIte, Nat.reduceEqDiff, Nat.reduceLT, and_self, true_and, Int.zero_add]
  simp (implicitDefEqProofs := false) (dsimp := false) only [mf1_call, mf2_call, mf3_call, eval_nilI, ↓er_eql, ↓cdK_true, ↓gdK_t, ↓gval_mk, ↓gvL_zero, ↓gvL_succ, ↓nthK_H, ↓nthH_zero, ↓nthH_succ, ↓aw_seq, ↓aw_ret, ↓aw_reg, ↓Qseq_n, ↓Qret_r, ↓ops_nil, ↓ops_cons, ↓ops_guard, ↓eval_tmp, ↓eval_int, ↓eval_func, ↓put_some, ↓bK_b, ↓dK_d, ↓lenK_l, ↓tK_t, ↓binE_i, ↓bi_eql, ↓op_move, ↓op_assign, ↓op_pick, ↓op_bin, ↓op_extract, ↓op_len, ↓op_call, ↓orH_T, isD_d, ↓fnK_f, ↓call_H, ↓callK_H, ↓allT_nil, ↓allT_cons, ↓allD_nil, ↓allD_cons, ↓td_d, ↓ret_1, ↓st_tm, ↓cells_c, ↓one_i, ↓bs_, ↓op_bs, ↓bsL_f, ↓stored_mk, ↓sl_nil, ↓sl_cons, ↓sT_move, ↓sT_assign, ↓sT_pick, ↓sT_bin, ↓sT_bs, ↓sT_call, ↓vsz_int, ↓inO_1, ↓fm_nil, ↓fm_cons, ↓ty3, ↓zb3, ↓sl28, List.getD_cons_zero, List.getD_cons_succ, List.set_cons_zero, List.set_cons_succ, List.append_nil, List.map_cons, List.map_nil, List.length_cons, List.length_nil, List.all_cons, List.all_nil, Bool.and_true, Bool.true_and, Bool.and_self, Bool.true_or, Bool.or_false, Nat.reduceAdd, Nat.reduceSub, Nat.reduceMul, Nat.zero_add, evK_go, reduceIte, decide_true, Nat.reduceEqDiff, Nat.reduceLT, and_self, true_and, and_true, Int.zero_add, Int.cast_ofNat_Int]
  exact ⟨⟨rfl, by decide⟩, OrH.l (OrH.l (OrH.l (OrH.l (by decide))))⟩
theorem mfact_call  (pure : Bool) (σ : St) (dst : Option Tmp) (K : St → Prop) : CallH Try.prog 26 [] pure σ dst (.mk : Hid K) = OrH ((pure || D.flat (Bo true)) = true ∧ evK (σ.put dst (.d (Bo true))) (.mk : Hid K)) (.mk : Hid (CallH Try.prog 26 [] pure σ dst (.mk : Hid K))) := CallH.eq0 (mfact_spec ) pure σ dst K
theorem mfact_callQ  (pure : Bool) (C : V → Prop) : CallQ Try.prog 26 [] pure (.mk : Hid C) = OrH ((pure || D.flat (Bo true)) = true ∧ evK (V.d (Bo true)) (.mk : Hid C)) (.mk : Hid (CallQ Try.prog 26 [] pure (.mk : Hid C))) := CallQ.eq0 (mfact_spec ) pure C
end Go.Proofs

namespace Go.Proofs
open Go.Aw
set_option linter.unusedSimpArgs false
set_option maxRecDepth 10000
theorem t_flat (n e : Int) : D.flat (.t [I .i64 n, erD e]) = true := by unfold erD; split <;> rfl
theorem most_mn {left right : Int} {l : List (Int × Int)} (h : mchk left right l = 0) : MN (natL l) (mostR left right l) := by
  have ok := mchk_ok h
  rw [show mostR left right l = mostK (kuhn left.toNat right.toNat (natL l)) from if_pos h]
  exact most_MN ok.sides (by have := ok.lhi; omega) (by have := ok.rhi; omega)
theorem most_le {left right : Int} {l : List (Int × Int)} (h : mchk left right l = 0) : mostR left right l ≤ left.toNat ∧ mostR left right l ≤ right.toNat := by
  have ok := mchk_ok h
  obtain ⟨⟨M, h1, h2⟩, _⟩ := most_mn h
  have a := pig (M := List.range left.toNat) h1.fst (fun x hx => by
    obtain ⟨p, hp, rfl⟩ := List.mem_map.1 hx
    simpa using (ok.sides _ (h1.sub p hp)).1)
  have b := pig (M := List.range right.toNat) h1.snd (fun x hx => by
    obtain ⟨p, hp, rfl⟩ := List.mem_map.1 hx
    simpa using (ok.sides _ (h1.sub p hp)).2)
  simp (implicitDefEqProofs := false) (dsimp := false) only [List.length_map, List.length_range] at a b
  omega
theorem mchk_back {left right : Int} {l : List (Int × Int)} : mchk right left (backI l) = 0 ↔ mchk left right l = 0 := by
  rw [mchk_iff, mchk_iff]
  have hl : (backI l).length = l.length := by simp [backI]
  rw [hl]
  have hm : ∀ p, p ∈ backI l ↔ flipI p ∈ l := fun p => by
    unfold backI
    rw [List.mem_map]
    constructor
    · rintro ⟨q, hq, rfl⟩; simpa [flipI] using hq
    · intro h; exact ⟨flipI p, by simpa using h, rfl⟩
  constructor
  · rintro ⟨⟨h1, h2⟩, h3, h4⟩
    refine ⟨⟨h2, h1⟩, h3, fun p hp => ?_⟩
    have := h4 (flipI p) ((hm _).2 hp)
    exact ⟨this.2, this.1⟩
  · rintro ⟨⟨h1, h2⟩, h3, h4⟩
    refine ⟨⟨h2, h1⟩, h3, fun p hp => ?_⟩
    have := h4 (flipI p) ((hm _).1 hp)
    exact ⟨this.2, this.1⟩
theorem most_back {left right : Int} {l : List (Int × Int)} (h : mchk left right l = 0) : mostR right left (backI l) = mostR left right l := by
  have h1 := most_mn h
  have h2 := most_mn (mchk_back.2 h)
  rw [natL_back] at h2
  exact h2.unique (h1.flip fun a b => by rw [back_mem, flip_mem])
theorem most_more {left right : Int} {l : List (Int × Int)} {p : Int × Int} (h : mchk left right l = 0) (h2 : mchk left right (l ++ [p]) = 0) : mostR left right (l ++ [p]) = mostR left right l ∨ mostR left right (l ++ [p]) = mostR left right l + 1 := by
  refine (most_mn h).more (most_mn h2) (e := natP p) fun q => ?_
  unfold natL
  simp
theorem mchk_more {left right : Int} {l : List (Int × Int)} {p : Int × Int} (h : mchk left right l = 0) (h2 : mchk left right (l ++ [p]) ≠ 0) : l.length = 24 ∨ inB p.1 0 (left - 1) = false ∨ inB p.2 0 (right - 1) = false := by
  refine Classical.byContradiction fun hno => h2 ?_
  rw [not_or, not_or, Bool.not_eq_false, Bool.not_eq_false, inB_iff, inB_iff] at hno
  rw [mchk_iff] at h ⊢
  refine ⟨h.1, by simp; omega, fun q hq => ?_⟩
  rcases List.mem_append.1 hq with hq | hq
  · exact h.2.2 q hq
  · rw [List.mem_singleton.1 hq]; exact ⟨hno.2.1, hno.2.2⟩
end Go.Proofs

namespace Go.Proofs
open Go.Aw
set_option linter.unusedSimpArgs false
set_option maxRecDepth 10000
def notI (l : List (Int × Int)) (i : Int) : List (Int × Int) := l.filter fun p => !decide (p.1 = i)
theorem notI_succ {l : List (Int × Int)} (i : Int) {k : Nat} (h : k < l.length) : notI (l.take (k + 1)) i = notI (l.take k) i ++ (if decide ((l.getD k default).1 = i) then [] else [l.getD k default]) := by
  rw [take_succ_getD h]
  unfold notI
  rw [List.filter_append]
  generalize l.getD k default = y
  by_cases h1 : y.1 = i <;> simp [List.filter_cons, h1]
theorem notI_len (l : List (Int × Int)) (i : Int) : (notI l i).length ≤ l.length := List.length_filter_le _ _
theorem least_w {left right : Int} {l : List (Int × Int)} (h : mchk left right l = 0) {i : Nat} (hi : (i : Int) < left) : mchk left right (notI l (i : Int)) = 0 ∧
    ((i : Int) ∈ (covA left right l).map Int.ofNat → (mostR left right (notI l (i : Int)) : Int) = (mostR left right l : Int) - 1) ∧ ((i : Int) ∉ (covA left right l).map Int.ofNat → mostR left right (notI l (i : Int)) = mostR left right l) := by
  have ok := mchk_ok h
  have h0 : mchk left right (notI l (i : Int)) = 0 := by
    rw [mchk_iff] at h ⊢
    exact ⟨h.1, by have := notI_len l (i : Int); omega, fun p hp => h.2.2 p (List.mem_filter.1 hp).1⟩
  have hm := most_mn h0
  have el := ok.l0
  obtain ⟨g1, g2⟩ := least ok.sides (by have := ok.lhi; omega) (by have := ok.rhi; omega) (i := i) (by omega) hm (fun p => by
    unfold natL notI
    simp (implicitDefEqProofs := false) (dsimp := false) only [List.mem_map, List.mem_filter]
    constructor
    · rintro ⟨q, ⟨hq, hne⟩, rfl⟩
      have := ok.rng q hq
      refine ⟨⟨q, hq, rfl⟩, ?_⟩
      simp at hne
      simp (implicitDefEqProofs := false) (dsimp := false) only [natP]
      omega
    · rintro ⟨⟨q, hq, rfl⟩, hne⟩
      have := ok.rng q hq
      refine ⟨q, ⟨hq, ?_⟩, rfl⟩
      simp (implicitDefEqProofs := false) (dsimp := false) only [natP] at hne
      simp
      omega)
  have e1 : mostR left right l = mostK (kuhn left.toNat right.toNat (natL l)) := if_pos h
  have e2 : covA left right l = coverA left.toNat right.toNat (natL l) := if_pos h
  have hmem : (i : Int) ∈ (covA left right l).map Int.ofNat ↔ i ∈ coverA left.toNat right.toNat (natL l) := by
    rw [e2, List.mem_map]
    exact ⟨fun ⟨x, hx, e⟩ => by rw [← Int.ofNat_inj.1 e]; exact hx, fun hx => ⟨i, hx, rfl⟩⟩
  rw [hmem, e1]
  refine ⟨h0, fun h => ?_, fun h => g2 h⟩
  have := g1 h
  omega
theorem cov_len {left right : Int} {l : List (Int × Int)} : (covA left right l).length ≤ 64 ∧ (covB left right l).length ≤ 64 := by
  unfold covA covB
  split
  · exact ⟨pts_len _, pts_len _⟩
  · exact ⟨by simp, by simp⟩
theorem lMatchLeast_spec (left right : Int) (l : List (Int × Int)) (i : Int) (_hl : -9223372036854775808 ≤ left ∧ left ≤ 9223372036854775807) (_hr : -9223372036854775808 ≤ right ∧ right ≤ 9223372036854775807) (hpre : l.length < 2 ^ 43) (_hi : -9223372036854775808 ≤ i ∧ i ≤ 9223372036854775807) :
    FnD Try.prog 6 [I .i64 left, I .i64 right, .l (l.map lnD), I .i64 i] (Bo true) := by
  have hl62 : l.length < 2 ^ 62 := by omega
  refine FnD.go Try.func6 rfl rfl Try.results6 Try.ntmps6 ?_
  simp (implicitDefEqProofs := false) (dsimp := false) only [↓aw_seq, ↓aw_reg, ↓Qseq_n, ↓ops_nil, ↓ops_cons, ↓eval_bool, ↓eval_func, ↓put_some, ↓op_assign, ↓op_call, isD_d, ↓fnK_f, ↓call_H, ↓callK_H, ↓allT_nil, ↓td_d, List.set_cons_zero, List.set_cons_succ, List.cons_append, List.nil_append, List.append_nil, List.map_cons, List.map_nil, List.length_cons, List.length_nil, List.all_nil, Bool.and_self, Nat.reduceAdd, Nat.reduceSub, Nat.reduceMul, Nat.zero_add, List.replicate, evK_go, reduceIte, Nat.reduceEqDiff, Nat.reduceLT, and_self, Int.zero_add]
  simp (implicitDefEqProofs := false) (dsimp := false) only [mfact_call, most_call, hl62, eval_nilI, ↓er_neq, ↓cdK_false, ↓cdK_not, ↓gdK_f, ↓gval_mk, ↓gvL_zero, ↓gvL_succ, ↓nthK_H, ↓nthH_zero, ↓nthH_succ, ↓aw_cond, ↓aw_seq, ↓aw_skip, ↓aw_reg, ↓Qseq_n, ↓ops_nil, ↓ops_cons, ↓ops_guard, ↓eval_tmp, ↓eval_func, ↓put_some, ↓bK_b, ↓tK_t, ↓op_move, ↓op_assign, ↓op_bin, ↓op_not, ↓op_extract, ↓op_call, isD_d, ↓fnK_f, ↓call_H, ↓callK_H, ↓allT_nil, ↓allT_cons, ↓td_d, ↓st_tm, List.getD_cons_zero, List.getD_cons_succ, List.set_cons_zero, List.set_cons_succ, List.append_nil, List.all_cons, List.all_nil, Bool.true_and, Bool.and_self, Bool.true_or, Nat.reduceAdd, Nat.reduceSub, Nat.reduceMul, evK_go, reduceIte, Bool.not_true, Nat.reduceEqDiff, Nat.reduceLT, and_self, true_and]
  (repeat refine OrH.l ?_)
  refine cdK_dec (fun hc => ?_) (fun hc => ?_)
  rotate_left
  · have e1 : mostR left right l = 0 := if_neg hc
    have hd : decide (mchk left right l = 0) = false := decide_eq_false hc
    simp (implicitDefEqProofs := false) (dsimp := false) only [e1, hd, eval_nilI, ↓er_eql, ↓cdK_true, ↓cdK_false, ↓gdK_f, ↓gval_mk, ↓gvL_zero, ↓gvL_succ, ↓aw_cond, ↓aw_seq, ↓aw_ret, ↓aw_reg, ↓Qseq_n, ↓Qseq_r, ↓Qret_r, ↓ops_nil, ↓ops_cons, ↓ops_guard, ↓eval_tmp, ↓eval_int, ↓eval_bool, ↓put_some, ↓bK_b, ↓binE_i, ↓bi_eql, ↓op_move, ↓op_assign, ↓op_pick, ↓op_bin, ↓td_d, ↓ret_1, ↓st_tm, List.getD_cons_zero, List.getD_cons_succ, List.set_cons_zero, List.set_cons_succ, Nat.reduceAdd, Nat.reduceSub, Nat.reduceMul, evK_go, reduceIte, decide_true, Bool.not_false, Nat.reduceEqDiff, Nat.reduceLT, Int.cast_ofNat_Int]
  have hd : decide (mchk left right l = 0) = true := decide_eq_true hc
  have ok := mchk_ok hc
  have hl6 := ok.lhi
  have el := ok.l0
  have hlen := ok.len
  simp (implicitDefEqProofs := false) (dsimp := false) only [hd, in2_call, ↓cdK_false, ↓cdK_not, ↓gdK_f, ↓gval_mk, ↓gvL_zero, ↓gvL_succ, ↓aw_cond, ↓Qseq_n, ↓ops_nil, ↓ops_cons, ↓ops_guard, ↓eval_tmp, ↓eval_int, ↓eval_func, ↓put_some, ↓bK_b, ↓binE_i, ↓bi_sub, ↓in_i64, ↓op_move, ↓op_pick, ↓op_bin, ↓op_not, ↓op_call, isD_d, ↓fnK_f, ↓call_H, ↓callK_H, ↓allT_nil, ↓allT_cons, ↓td_d, ↓st_tm, List.getD_cons_zero, List.getD_cons_succ, List.set_cons_zero, List.set_cons_succ, List.append_nil, List.all_cons, List.all_nil, Bool.true_and, Bool.and_self, Bool.true_or, Nat.reduceAdd, Nat.reduceSub, Nat.reduceMul, evK_go, reduceIte, Bool.not_true, Nat.reduceEqDiff, Nat.reduceLT, and_self, true_and]
  refine ⟨by omega, ?_⟩
  (repeat refine OrH.l ?_)
  refine cdK_split (fun hin => ?_) (fun hin => ?_)
  rotate_left
  · simp (implicitDefEqProofs := false) (dsimp := false) only [hd, hin, eval_nilI, ↓er_eql, ↓cdK_true, ↓gdK_f, ↓gval_mk, ↓gvL_zero, ↓gvL_succ, ↓aw_seq, ↓aw_ret, ↓aw_reg, ↓Qseq_n, ↓Qseq_r, ↓Qret_r, ↓ops_nil, ↓ops_cons, ↓ops_guard, ↓eval_tmp, ↓eval_bool, ↓put_some, ↓bK_b, ↓op_move, ↓op_assign, ↓op_pick, ↓op_bin, ↓td_d, ↓ret_1, ↓st_tm, List.getD_cons_zero, List.getD_cons_succ, List.set_cons_zero, List.set_cons_succ, Nat.reduceAdd, Nat.reduceSub, Nat.reduceMul, evK_go, reduceIte, Bool.not_false, Nat.reduceEqDiff, Nat.reduceLT]
  have hin' := inB_iff.1 hin
  obtain ⟨x, rfl⟩ := Int.eq_ofNat_of_zero_le hin'.1
  obtain ⟨hc2, g1, g2⟩ := least_w hc (i := x) (by omega)
  have hcl := (cov_len (left := left) (right := right) (l := l)).1
  have hcl62 : ((covA left right l).map Int.ofNat).length < 2 ^ 62 := by rw [List.length_map]; omega
  simp (implicitDefEqProofs := false) (dsimp := false) only [hin, hc, cover_call, hl62, nD_ints, eval_nilI, ↓er_neq, ↓cdK_false, ↓nthK_H, ↓nthH_zero, ↓nthH_succ, ↓aw_cond, ↓aw_seq, ↓aw_block, ↓aw_skip, ↓aw_loop, ↓aw_reg, ↓Qseq_n, ↓ops_nil, ↓ops_cons, ↓eval_tmp, ↓eval_int, ↓eval_nil, ↓eval_func, ↓put_some, ↓bK_b, ↓tK_t, ↓op_move, ↓op_assign, ↓op_bin, ↓op_extract, ↓op_call, isD_d, ↓fnK_f, ↓call_H, ↓callK_H, ↓allT_nil, ↓allT_cons, ↓td_d, List.getD_cons_zero, List.getD_cons_succ, List.set_cons_zero, List.set_cons_succ, List.append_nil, List.all_cons, List.all_nil, Bool.true_and, Bool.and_self, Bool.true_or, Nat.reduceAdd, Nat.reduceSub, Nat.reduceMul, evK_go, reduceIte, decide_true, Bool.not_true, Nat.reduceEqDiff, Nat.reduceLT, and_self, true_and]
  generalize (covA left right l).map Int.ofNat = A at g1 g2 hcl62 ⊢
  (repeat refine OrH.l ?_)
  refine loopX (fun k : Nat => { tm := slots 91 [(0, .d (I .i64 left)), (1, .d (I .i64 right)), (2, .d (.l (l.map lnD))), (3, .d (I .i64 (x : Int))), (10, .d (I .i64 (mostR left right l : Int))), (12, .d (.l (A.map (I .i64)))), (14, .o 0 0 (notI (l.take k) (x : Int)).length), (15, .d (I .i64 k))], bx := [], rw := [some ⟨2, (notI (l.take k) (x : Int)).map lnD⟩] })
    (fun k => k ≤ l.length) (fun k => l.length - k) 0 (fun _ : Unit => { tm := slots 91 [(0, .d (I .i64 left)), (1, .d (I .i64 right)), (3, .d (I .i64 (x : Int))), (10, .d (I .i64 (mostR left right l : Int))), (12, .d (.l (A.map (I .i64)))), (14, .d (.l ((notI l (x : Int)).map lnD)))], bx := [], rw := [] })
    (fun _ => True) 0 (by simp) ?_ ?_ ?_
  · refine Wkn.of [] [none] ?_
    simp (implicitDefEqProofs := false) (dsimp := false) only [notI, List.filter_nil, ↓row_xs, List.set_cons_zero, List.set_cons_succ, List.map_nil, List.length_nil, Bool.and_self, Nat.reduceAdd, Nat.reduceSub, Nat.reduceMul, List.replicate, evK_go, reduceIte, Nat.reduceEqDiff, Nat.reduceLT, and_self, List.take_zero, List.foldl_cons, List.foldl_nil, Int.cast_ofNat_Int, slots, wkL_nil, wkL_cons, wkB_nil, wkR_nil, wkR_new, wkV_j, wkV_d, nlK_nl, wkV_o, frz_d, oK_zn, reduceCtorEq]
  · intro k hk
    have hs := fun h => notI_succ (l := l) (x : Int) (k := k) h
    have hnl := notI_len (l.take k) (x : Int)
    rw [List.length_take] at hnl
    simp (implicitDefEqProofs := false) (dsimp := false) only [slots, ↓aw_cond, ↓aw_seq, ↓aw_reg, ↓Qseq_n, ↓ops_nil, ↓ops_cons, ↓eval_tmp, ↓put_some, ↓bK_b, ↓lenK_l, ↓binE_i, ↓bi_lss, ↓op_move, ↓op_bin, ↓op_len, ↓sl22, List.getD_cons_zero, List.getD_cons_succ, List.set_cons_zero, List.set_cons_succ, List.length_map, Nat.reduceAdd, Nat.reduceSub, Nat.reduceMul, List.replicate, evK_go, reduceIte, Nat.reduceEqDiff, Nat.reduceLT, List.foldl_cons, List.foldl_nil, Int.ofNat_lt]
    refine cdK_dec (fun h => ?_) (fun h => ?_)
    · have hs := hs h
      simp (implicitDefEqProofs := false) (dsimp := false) only [h, lnD, ↓cdK_not, ↓atK_H, ↓atH_map, ↓aw_cond, ↓aw_seq, ↓aw_block, ↓aw_skip, ↓aw_reg, ↓Qseq_n, ↓ops_nil, ↓ops_cons, ↓eval_tmp, ↓put_some, ↓bK_b, ↓iK_i, ↓binE_i, ↓bi_neq, ↓ldK_q, ↓faK_q, ↓iaK_l, ↓op_move, ↓op_load, ↓op_bin, ↓op_fa, ↓op_ia, ↓cells_s, ↓hd_cons, ↓ty3, ↓sl22, ↓ty35, ↓fd35_0, List.getD_cons_zero, List.getD_cons_succ, List.set_cons_zero, List.set_cons_succ, List.length_cons, List.length_nil, Bool.true_and, Nat.reduceAdd, Nat.reduceSub, Nat.reduceMul, Nat.zero_add, Int.toNat_natCast, evK_go, reduceIte, decide_true, Nat.reduceEqDiff, Nat.reduceLT, true_and, Int.zero_add, List.drop_zero, Int.natCast_nonneg]
      refine cdK_dec (fun h1 => ?_) (fun h1 => ?_)
      · rw [if_pos (decide_eq_true h1), List.append_nil] at hs
        simp (implicitDefEqProofs := false) (dsimp := false) only [↓aw_skip, ↓aw_reg, ↓Qseq_n, ↓Qblk_n, ↓ops_nil, ↓ops_cons, ↓eval_tmp, ↓eval_int, ↓put_some, ↓binE_i, ↓bi_add, ↓in_i64, ↓op_move, ↓op_assign, ↓op_bin, List.getD_cons_zero, List.getD_cons_succ, List.set_cons_zero, List.set_cons_succ, Nat.reduceAdd, Nat.reduceSub, Nat.reduceMul, evK_go, reduceIte, Nat.reduceEqDiff, Nat.reduceLT]
        refine ⟨by omega, k + 1, by omega, by omega, ?_⟩
        refine Wkn.of [] [some 0] ?_
        simp (implicitDefEqProofs := false) (dsimp := false) only [hs, List.getD_cons_zero, List.set_cons_zero, List.set_cons_succ, Bool.and_self, Nat.reduceAdd, Nat.reduceSub, Nat.reduceMul, List.replicate, evK_go, reduceIte, Nat.reduceEqDiff, Nat.reduceLT, and_self, List.foldl_cons, List.foldl_nil, Int.cast_ofNat_Int, Int.natCast_add, slots, wkL_nil, wkL_cons, wkB_nil, wkR_nil, wkR_some, wkV_j, wkV_d, wkV_o, frz_d, oK_zs, reduceCtorEq]
      · rw [if_neg (by rw [decide_eq_true_eq]; exact h1)] at hs
        simp (implicitDefEqProofs := false) (dsimp := false) only [h, lnD, ↓optK_some, ↓rwK_mk_, ↓atK_H, ↓atH_map, ↓aw_reg, ↓Qseq_n, ↓Qblk_n, ↓ops_nil, ↓ops_cons, ↓eval_tmp, ↓eval_int, ↓put_some, ↓iK_i, ↓dK_d, ↓binE_i, ↓bi_add, ↓in_i64, ↓ldK_q, ↓iaK_l, ↓op_move, ↓op_assign, ↓op_load, ↓op_bin, ↓op_ia, ↓op_append, ↓allD_nil, ↓allD_cons, ↓app_mk, ↓row_sz, ↓row_xs, kill_d, kill_j, kill_o, ↓cells_s, ↓one_i, ↓ap_, ↓ap_o, ↓src_l, ↓bs_, ↓op_bs, ↓bsL_f, ↓stored_mk, ↓sl_nil, ↓sl_cons, ↓sT_move, ↓sT_assign, ↓sT_load, ↓sT_ia, ↓sT_bs, ↓sT_call, ↓vsz_agg, ↓inO_1, ↓fm_nil, ↓fm_cons, ↓sl22, ↓ty35, ↓zb35, List.getD_cons_zero, List.getD_cons_succ, List.set_cons_zero, List.set_cons_succ, List.map_cons, List.map_nil, List.length_cons, List.length_nil, List.length_map, List.all_cons, List.all_nil, Bool.true_and, Bool.and_self, Bool.or_false, Nat.reduceAdd, Nat.reduceSub, Nat.reduceMul, Nat.zero_add, Int.toNat_natCast, evK_go, reduceIte, Nat.reduceEqDiff, Nat.reduceLT, and_self, true_and, Int.zero_add, List.drop_zero, List.take_succ_cons, List.take_nil, Int.natCast_nonneg]
        refine ⟨by decide, ⟨rfl, by decide⟩, rfl, ⟨fun _ => trivial, by omega, by omega⟩, by omega, k + 1, by omega, by omega, ?_⟩
        refine Wkn.of [] [some 0] ?_
        simp (implicitDefEqProofs := false) (dsimp := false) only [hs, List.map_append, List.length_append, lnD, List.getD_cons_zero, List.set_cons_zero, List.set_cons_succ, List.map_cons, List.map_nil, List.length_cons, List.length_nil, Bool.and_self, Nat.reduceAdd, Nat.reduceSub, Nat.reduceMul, Nat.zero_add, List.replicate, evK_go, reduceIte, Nat.reduceEqDiff, Nat.reduceLT, and_self, Int.zero_add, List.foldl_cons, List.foldl_nil, Int.cast_ofNat_Int, Int.natCast_add, slots, wkL_nil, wkL_cons, wkB_nil, wkR_nil, wkR_some, wkV_j, wkV_d, wkV_o, frz_d, oK_zs, reduceCtorEq]
    · obtain rfl : k = l.length := by omega
      have e1 : List.take (notI l (x : Int)).length (List.map lnD (notI l (x : Int))) = List.map lnD (notI l (x : Int)) := List.take_of_length_le (by simp)
      rw [List.take_length]
      simp (implicitDefEqProofs := false) (dsimp := false) only [QX_x, ↓aw_exit, ↓Qseq_x, Bool.true_and, Nat.reduceAdd, Nat.reduceSub, Nat.reduceMul, evK_go, reduceIte, decide_false, Nat.reduceEqDiff, Nat.reduceLT, true_and, Nat.lt_irrefl]
      refine ⟨(), ?_⟩
      refine Wkn.of [] [] ?_; simp (implicitDefEqProofs := false) (dsimp := false) only [e1, ↓optK_some, ↓row_xs, List.getD_cons_zero, List.set_cons_zero, List.set_cons_succ, Bool.and_self, Nat.reduceAdd, Nat.reduceSub, Nat.reduceMul, List.replicate, evK_go, reduceIte, Nat.reduceEqDiff, Nat.reduceLT, and_self, not_false_eq_true, List.drop_zero, List.foldl_cons, List.foldl_nil, slots, wkL_nil, wkL_cons, wkB_nil, wkR_nil, wkV_j, wkV_d, frz_d, frz_o, dl_eq, reduceCtorEq, List.not_mem_nil]
  · intro _ _
    have hn62 : (notI l (x : Int)).length < 2 ^ 62 := by have := notI_len l (x : Int); omega
    simp (implicitDefEqProofs := false) (dsimp := false) only [slots, most_call, hn62, hc2, hasR_call, hcl62, eval_nilI, ↓er_neq, ↓cdK_false, ↓nthK_H, ↓nthH_zero, ↓nthH_succ, ↓aw_cond, ↓aw_seq, ↓aw_skip, ↓aw_reg, ↓Qseq_n, ↓Qseq_x, ↓Qblk_x, ↓ops_nil, ↓ops_cons, ↓eval_tmp, ↓eval_func, ↓put_some, ↓bK_b, ↓tK_t, ↓op_move, ↓op_assign, ↓op_bin, ↓op_extract, ↓op_call, isD_d, ↓fnK_f, ↓call_H, ↓callK_H, ↓allT_nil, ↓allT_cons, ↓td_d, List.getD_cons_zero, List.getD_cons_succ, List.set_cons_zero, List.set_cons_succ, List.append_nil, List.all_cons, List.all_nil, Bool.true_and, Bool.and_self, Bool.true_or, Nat.reduceAdd, Nat.reduceSub, Nat.reduceMul, List.replicate, evK_go, reduceIte, decide_true, Bool.not_true, Nat.reduceEqDiff, Nat.reduceLT, and_self, true_and, List.foldl_cons, List.foldl_nil]
    (repeat refine OrH.l ?_)
    have hml := most_le hc
    refine cdK_dec (fun h1 => ?_) (fun h1 => ?_)
    · have hv := g1 h1
      have hd2 : decide ((mostR left right (notI l (x : Int)) : Int) = (mostR left right l : Int) - 1) = true := decide_eq_true hv
      simp (implicitDefEqProofs := false) (dsimp := false) only [hd2, ↓aw_seq, ↓aw_ret, ↓aw_reg, ↓Qseq_n, ↓Qseq_r, ↓Qret_r, ↓ops_nil, ↓ops_cons, ↓eval_tmp, ↓eval_int, ↓put_some, ↓binE_i, ↓bi_sub, ↓bi_eql, ↓in_i64, ↓op_move, ↓op_assign, ↓op_bin, ↓td_d, ↓ret_1, List.getD_cons_zero, List.getD_cons_succ, List.set_cons_zero, List.set_cons_succ, Bool.and_true, Nat.reduceAdd, Nat.reduceSub, Nat.reduceMul, evK_go, reduceIte, Nat.reduceEqDiff, Nat.reduceLT, and_true]
      omega
    · have hv := g2 h1
      simp (implicitDefEqProofs := false) (dsimp := false) only [hv, ↓aw_seq, ↓aw_ret, ↓aw_skip, ↓aw_reg, ↓Qseq_n, ↓Qret_r, ↓ops_nil, ↓ops_cons, ↓eval_tmp, ↓put_some, ↓binE_i, ↓bi_eql, ↓op_move, ↓op_assign, ↓op_bin, ↓td_d, ↓ret_1, List.getD_cons_zero, List.getD_cons_succ, List.set_cons_zero, List.set_cons_succ, Nat.reduceAdd, Nat.reduceSub, Nat.reduceMul, evK_go, reduceIte, decide_true, Nat.reduceEqDiff, Nat.reduceLT]
end Go.Proofs

namespace Go.Proofs
open Go.Aw
set_option linter.unusedSimpArgs false
set_option maxRecDepth 10000
def hasF (l : List (Int × Int)) (s i j : Nat) : Bool := (List.range i).any fun x => s.testBit x && decide (((x : Int), (j : Int)) ∈ l)
theorem hasF_succ (l : List (Int × Int)) (s i j : Nat) : hasF l s (i + 1) j = (hasF l s i j || (s.testBit i && decide (((i : Int), (j : Int)) ∈ l))) := by
  unfold hasF
  rw [List.range_succ, List.any_append]
  simp
def partF {α : Type} (f g : Nat → α) (n q : Nat) : List α := (List.range n).map fun j => if j < q then f j else g j
theorem partF_len {α : Type} (f g : Nat → α) (n q : Nat) : (partF f g n q).length = n := by simp [partF]
theorem partF_set {α : Type} (f g : Nat → α) {n q : Nat} (_h : q < n) : (partF f g n q).set q (f q) = partF f g n (q + 1) := by
  refine List.ext_getElem (by simp [partF]) fun i h1 h2 => ?_
  rw [List.getElem_set]
  simp (implicitDefEqProofs := false) (dsimp := false) only [partF, List.getElem_map, List.getElem_range]
  split
  · rename_i e; subst e; rw [if_pos (by omega)]
  · rename_i e
    by_cases h3 : i < q
    · rw [if_pos h3, if_pos (by omega)]
    · rw [if_neg h3, if_neg (by omega)]
theorem partF_get {α : Type} [Inhabited α] (f g : Nat → α) {n q : Nat} (h : q < n) : (partF f g n q).getD q default = g q := by
  unfold partF
  rw [List.getD_eq_getElem?_getD, List.getElem?_map, List.getElem?_range h]
  simp
theorem partF_zero {α : Type} (f g : Nat → α) (n : Nat) : partF f g n 0 = (List.range n).map g := by simp [partF]
theorem partF_all {α : Type} (f g : Nat → α) (n : Nat) : partF f g n n = (List.range n).map f := by
  unfold partF
  refine List.map_congr_left fun j hj => ?_
  rw [if_pos (by simpa using hj)]
def lackF (f : Nat → Int) : Nat → Int
  | 0 => 0
  | k + 1 => if f k > lackF f k then f k else lackF f k
theorem lackF_spec (f : Nat → Int) (k : Nat) : 0 ≤ lackF f k ∧ (∀ s, s < k → f s ≤ lackF f k) ∧ (lackF f k = 0 ∨ ∃ s, s < k ∧ lackF f k = f s) := by
  induction k with
  | zero => exact ⟨Int.le_refl _, fun s h => by omega, .inl rfl⟩
  | succ k ih =>
    obtain ⟨h1, h2, h3⟩ := ih
    unfold lackF
    split
    · rename_i h
      refine ⟨by omega, fun s hs => ?_, .inr ⟨k, by omega, rfl⟩⟩
      rcases Nat.lt_or_ge s k with h4 | h4
      · have := h2 s h4; omega
      · have : s = k := by omega
        subst this; exact Int.le_refl _
    · rename_i h
      refine ⟨h1, fun s hs => ?_, h3.imp id fun ⟨s, h4, h5⟩ => ⟨s, by omega, h5⟩⟩
      rcases Nat.lt_or_ge s k with h4 | h4
      · exact h2 s h4
      · have : s = k := by omega
        subst this; omega
def hallF (a b : Nat) (l : List (Int × Int)) (s : Nat) : Int := (someN a s : Int) - (b : Int) + (missN ((List.range b).map (hasF l s a)) : Nat)
theorem hall_w {left right : Int} {l : List (Int × Int)} (h : mchk left right l = 0) : (mostR left right l : Int) = left - lackF (hallF left.toNat right.toNat l) (2 ^ left.toNat) := by
  have ok := mchk_ok h
  have hl := ok.lhi
  have hr := ok.rhi
  have el := ok.l0
  have hm := most_mn h
  have hml := most_le h
  have hmem : ∀ i j : Nat, (i, j) ∈ natL l ↔ ((i : Int), (j : Int)) ∈ l := fun i j => by
    unfold natL
    rw [List.mem_map]
    constructor
    · rintro ⟨p, hp, e⟩
      have := ok.rng p hp
      have e1 := congrArg Prod.fst e
      have e2 := congrArg Prod.snd e
      simp (implicitDefEqProofs := false) (dsimp := false) only [natP] at e1 e2
      have : p = ((i : Int), (j : Int)) := Prod.ext (by simp only; omega) (by simp only; omega)
      rw [← this]; exact hp
    · intro hp; exact ⟨_, hp, rfl⟩
  have hf : ∀ s, hallF left.toNat right.toNat l s = (someN left.toNat s : Int) - (nbrs left.toNat right.toNat (natL l) s : Int) := fun s => by
    unfold hallF missN nbrs
    have e1 : (List.range right.toNat).countP (fun j => (List.range left.toNat).any fun i => s.testBit i && decide ((i, j) ∈ natL l)) = (List.range right.toNat).countP (hasF l s left.toNat) := by
      congr 1
      funext j
      unfold hasF
      congr 1
      funext i
      congr 1
      exact decide_eq_decide.2 (hmem i j)
    rw [e1, List.countP_map]
    have := List.length_eq_countP_add_countP (hasF l s left.toNat) (l := List.range right.toNat)
    rw [List.length_range] at this
    have e2 : (List.range right.toNat).countP ((fun b => !b) ∘ hasF l s left.toNat) = (List.range right.toNat).countP (fun j => decide ¬ hasF l s left.toNat j = true) := by
      congr 1
      funext j
      simp [Function.comp]
    rw [e2]
    omega
  obtain ⟨h1, h2, h3⟩ := lackF_spec (hallF left.toNat right.toNat l) (2 ^ left.toNat)
  obtain ⟨s, hs, hge⟩ := hall_ge ok.sides (by omega) (by omega)
  rw [show mostK (kuhn left.toNat right.toNat (natL l)) = mostR left right l from (if_pos h).symm] at hge
  have h4 := h2 s hs
  rw [hf] at h4
  rcases h3 with h3 | ⟨t, ht, h3⟩
  · omega
  · have h5 := hall_le ok.sides hm t
    rw [hf] at h3
    omega
def p2 (k : Nat) : Nat := 2 ^ k
theorem p2_zero : p2 0 = 1 := rfl
theorem p2_succ (k : Nat) : p2 (k + 1) = 2 * p2 k := by unfold p2; rw [Nat.pow_succ]; omega
theorem p2_le {k : Nat} (h : k ≤ 6) : p2 k ≤ 64 := Nat.le_trans (Nat.pow_le_pow_right (by omega) h) (by decide)
theorem p2_bit (s i : Nat) : s.testBit i = decide (s / p2 i % 2 = 1) := Nat.testBit_eq_decide_div_mod_eq
theorem lMatchHall_spec (left right : Int) (l : List (Int × Int)) (_hl : -9223372036854775808 ≤ left ∧ left ≤ 9223372036854775807) (_hr : -9223372036854775808 ≤ right ∧ right ≤ 9223372036854775807) (hpre : l.length < 2 ^ 43) :
    FnD Try.prog 4 [I .i64 left, I .i64 right, .l (l.map lnD)] (Bo true) := by
  have hl62 : l.length < 2 ^ 62 := by omega
  refine FnD.go Try.func4 rfl rfl Try.results4 Try.ntmps4 ?_
  simp (implicitDefEqProofs := false) (dsimp := false) only [↓aw_seq, ↓aw_reg, ↓Qseq_n, ↓ops_nil, ↓ops_cons, ↓eval_bool, ↓eval_func, ↓put_some, ↓op_assign, ↓op_call, isD_d, ↓fnK_f, ↓call_H, ↓callK_H, ↓allT_nil, ↓td_d, List.set_cons_zero, List.set_cons_succ, List.cons_append, List.nil_append, List.append_nil, List.map_cons, List.map_nil, List.length_cons, List.length_nil, List.all_nil, Bool.and_self, Nat.reduceAdd, Nat.reduceSub, Nat.reduceMul, Nat.zero_add, List.replicate, evK_go, reduceIte, Nat.reduceEqDiff, Nat.reduceLT, and_self, Int.zero_add]
  simp (implicitDefEqProofs := false) (dsimp := false) only [mfact_call, most_call, hl62, eval_nilI, ↓er_neq, ↓cdK_false, ↓cdK_not, ↓nthK_H, ↓nthH_zero, ↓nthH_succ, ↓aw_cond, ↓aw_seq, ↓aw_skip, ↓aw_reg, ↓Qseq_n, ↓ops_nil, ↓ops_cons, ↓eval_tmp, ↓eval_func, ↓put_some, ↓bK_b, ↓tK_t, ↓op_move, ↓op_assign, ↓op_bin, ↓op_not, ↓op_extract, ↓op_call, isD_d, ↓fnK_f, ↓call_H, ↓callK_H, ↓allT_nil, ↓allT_cons, ↓td_d, List.getD_cons_zero, List.getD_cons_succ, List.set_cons_zero, List.set_cons_succ, List.append_nil, List.all_cons, List.all_nil, Bool.true_and, Bool.and_self, Bool.true_or, Nat.reduceAdd, Nat.reduceSub, Nat.reduceMul, evK_go, reduceIte, Bool.not_true, Nat.reduceEqDiff, Nat.reduceLT, and_self, true_and]
  (repeat refine OrH.l ?_)
  refine cdK_dec (fun hc => ?_) (fun hc => ?_)
  rotate_left
  · have e1 : mostR left right l = 0 := if_neg hc
    simp (implicitDefEqProofs := false) (dsimp := false) only [e1, ↓aw_seq, ↓aw_ret, ↓aw_reg, ↓Qseq_n, ↓Qseq_r, ↓Qret_r, ↓ops_nil, ↓ops_cons, ↓eval_tmp, ↓eval_int, ↓put_some, ↓binE_i, ↓bi_eql, ↓op_move, ↓op_assign, ↓op_bin, ↓td_d, ↓ret_1, List.getD_cons_zero, List.getD_cons_succ, List.set_cons_zero, List.set_cons_succ, Nat.reduceAdd, Nat.reduceSub, Nat.reduceMul, evK_go, reduceIte, decide_true, Nat.reduceEqDiff, Nat.reduceLT, Int.cast_ofNat_Int]
  have hw := hall_w hc
  have ok := mchk_ok hc
  have hl6 := ok.lhi
  have hr6 := ok.rhi
  have el := ok.l0
  have er := ok.r0
  have hin1 : inB left 0 6 = true := inB_iff.2 ⟨by omega, by omega⟩
  have hin2 : inB right 0 6 = true := inB_iff.2 ⟨by omega, by omega⟩
  simp (implicitDefEqProofs := false) (dsimp := false) only [in2_call, hin1, hin2, ↓cdK_false, ↓gdK_f, ↓gval_mk, ↓gvL_zero, ↓gvL_succ, ↓aw_cond, ↓aw_seq, ↓aw_block, ↓aw_skip, ↓aw_loop, ↓aw_reg, ↓Qseq_n, ↓ops_nil, ↓ops_cons, ↓ops_guard, ↓eval_tmp, ↓eval_int, ↓eval_func, ↓put_some, ↓bK_b, ↓op_move, ↓op_assign, ↓op_pick, ↓op_not, ↓op_call, isD_d, ↓fnK_f, ↓call_H, ↓callK_H, ↓allT_nil, ↓allT_cons, ↓td_d, ↓st_tm, List.getD_cons_zero, List.getD_cons_succ, List.set_cons_zero, List.set_cons_succ, List.append_nil, List.all_cons, List.all_nil, Bool.true_and, Bool.and_self, Bool.true_or, Nat.reduceAdd, Nat.reduceSub, Nat.reduceMul, evK_go, reduceIte, Bool.not_true, Nat.reduceEqDiff, Nat.reduceLT, and_self, true_and]
  (repeat refine OrH.l ?_)
  clear hin1 hin2 ok
  generalize mostR left right l = n at *
  generalize left.toNat = a at *
  generalize right.toNat = b at *
  subst el er
  rw [show (2 : Nat) ^ a = p2 a from rfl] at hw
  refine loopW (fun k : Nat => { tm := slots 105 [(0, .d (I .i64 (a : Int))), (1, .d (I .i64 (b : Int))), (2, .d (.l (l.map lnD))), (8, .d (I .i64 (n : Int))), (10, .d (I .i64 0)), (11, .d (I .i64 (p2 k : Int))), (12, .d (I .i64 k))], bx := [], rw := [] })
    (fun k => k ≤ a) (fun k => a - k) 0 (by simp) ?_ ?_
  · refine Wkn.of [] [] ?_; simp (implicitDefEqProofs := false) (dsimp := false) only [p2_zero, List.set_cons_zero, List.set_cons_succ, Bool.and_self, Nat.reduceAdd, Nat.reduceSub, Nat.reduceMul, List.replicate, evK_go, reduceIte, Nat.reduceEqDiff, Nat.reduceLT, and_self, List.foldl_cons, List.foldl_nil, Int.cast_ofNat_Int, slots, wkL_nil, wkL_cons, wkB_nil, wkR_nil, wkV_j, wkV_d, frz_d, reduceCtorEq]
  · intro k hk
    have hpk := p2_le (k := k) (by omega)
    simp (implicitDefEqProofs := false) (dsimp := false) only [slots, ↓aw_cond, ↓aw_seq, ↓aw_reg, ↓Qseq_n, ↓ops_nil, ↓ops_cons, ↓eval_tmp, ↓put_some, ↓bK_b, ↓binE_i, ↓bi_lss, ↓op_move, ↓op_bin, List.getD_cons_zero, List.getD_cons_succ, List.set_cons_zero, List.set_cons_succ, Nat.reduceAdd, Nat.reduceSub, Nat.reduceMul, List.replicate, evK_go, reduceIte, Nat.reduceEqDiff, Nat.reduceLT, List.foldl_cons, List.foldl_nil, Int.ofNat_lt]
    refine cdK_dec (fun h => ?_) (fun h => ?_)
    · have hp1 := p2_succ k
      have e : (2 : Int) * (p2 k : Int) = (p2 (k + 1) : Int) := by omega
      simp (implicitDefEqProofs := false) (dsimp := false) only [e, ↓aw_seq, ↓aw_block, ↓aw_skip, ↓aw_reg, ↓Qseq_n, ↓Qblk_n, ↓ops_nil, ↓ops_cons, ↓eval_tmp, ↓eval_int, ↓put_some, ↓binE_i, ↓bi_add, ↓bi_mul, ↓in_i64, ↓op_move, ↓op_assign, ↓op_bin, List.getD_cons_zero, List.getD_cons_succ, List.set_cons_zero, List.set_cons_succ, Nat.reduceAdd, Nat.reduceSub, Nat.reduceMul, evK_go, reduceIte, Nat.reduceEqDiff, Nat.reduceLT]
      refine ⟨by omega, by omega, k + 1, by omega, by omega, ?_⟩
      refine Wkn.of [] [] ?_; simp (implicitDefEqProofs := false) (dsimp := false) only [List.set_cons_zero, List.set_cons_succ, Bool.and_self, Nat.reduceAdd, Nat.reduceSub, Nat.reduceMul, List.replicate, evK_go, reduceIte, Nat.reduceEqDiff, Nat.reduceLT, and_self, List.foldl_cons, List.foldl_nil, Int.cast_ofNat_Int, Int.natCast_add, slots, wkL_nil, wkL_cons, wkB_nil, wkR_nil, wkV_j, wkV_d, frz_d, reduceCtorEq]
    · obtain rfl : k = a := by omega
      simp (implicitDefEqProofs := false) (dsimp := false) only [↓aw_seq, ↓aw_block, ↓aw_exit, ↓aw_loop, ↓aw_reg, ↓Qseq_n, ↓Qseq_x, ↓Qblk_x, ↓ops_nil, ↓ops_cons, ↓eval_int, ↓put_some, ↓op_assign, List.set_cons_zero, List.set_cons_succ, Nat.reduceAdd, Nat.reduceSub, Nat.reduceMul, evK_go, reduceIte, decide_false, Nat.reduceEqDiff, Nat.reduceLT, Nat.lt_irrefl]
      refine loopW (fun s : Nat => { tm := slots 105 [(0, .d (I .i64 (k : Int))), (1, .d (I .i64 (b : Int))), (2, .d (.l (l.map lnD))), (8, .d (I .i64 (n : Int))), (10, .d (I .i64 (lackF (hallF k b l) s))), (11, .d (I .i64 (p2 k : Int))), (13, .d (I .i64 s))], bx := [], rw := [] })
        (fun s => s ≤ p2 k) (fun s => p2 k - s) 0 (by simp) ?_ ?_
      · refine Wkn.of [] [] ?_; simp (implicitDefEqProofs := false) (dsimp := false) only [lackF, List.set_cons_zero, List.set_cons_succ, Bool.and_self, Nat.reduceAdd, Nat.reduceSub, Nat.reduceMul, List.replicate, evK_go, reduceIte, Nat.reduceEqDiff, Nat.reduceLT, and_self, List.foldl_cons, List.foldl_nil, Int.cast_ofNat_Int, slots, wkL_nil, wkL_cons, wkB_nil, wkR_nil, wkV_j, wkV_d, frz_d, reduceCtorEq]
      · intro s hs
        simp (implicitDefEqProofs := false) (dsimp := false) only [slots, ↓aw_cond, ↓aw_seq, ↓aw_reg, ↓Qseq_n, ↓ops_nil, ↓ops_cons, ↓eval_tmp, ↓put_some, ↓bK_b, ↓binE_i, ↓bi_lss, ↓op_move, ↓op_bin, List.getD_cons_zero, List.getD_cons_succ, List.set_cons_zero, List.set_cons_succ, Nat.reduceAdd, Nat.reduceSub, Nat.reduceMul, List.replicate, evK_go, reduceIte, Nat.reduceEqDiff, Nat.reduceLT, List.foldl_cons, List.foldl_nil, Int.ofNat_lt]
        refine cdK_dec (fun h1 => ?_) (fun h1 => ?_)
        · simp (implicitDefEqProofs := false) (dsimp := false) only [↓aw_seq, ↓aw_block, ↓aw_skip, ↓aw_loop, ↓aw_reg, ↓Qseq_n, ↓ops_nil, ↓ops_cons, ↓eval_tmp, ↓eval_int, ↓put_some, ↓iK_i, ↓dK_d, ↓op_move, ↓op_assign, ↓op_make, ↓addRow_mk, ↓st_rw, ↓cells_c, ↓one_b, constV_b, ↓mk_, ↓vsz_bool, ↓ty4, ↓zb4, ↓sl38, List.getD_cons_zero, List.getD_cons_succ, List.set_cons_zero, List.set_cons_succ, List.nil_append, List.length_cons, List.length_nil, List.all_cons, List.all_nil, Bool.and_true, Bool.true_and, Bool.and_self, Nat.reduceAdd, Nat.reduceSub, Nat.reduceMul, Nat.zero_add, Int.toNat_natCast, evK_go, reduceIte, Nat.reduceEqDiff, Nat.reduceLT, and_self, true_and, and_true, Int.zero_add, Int.natCast_nonneg]
          refine ⟨⟨by omega, by decide⟩, ?_⟩
          refine loopW (fun i : Nat => { tm := slots 105 [(0, .d (I .i64 (k : Int))), (1, .d (I .i64 (b : Int))), (2, .d (.l (l.map lnD))), (8, .d (I .i64 (n : Int))), (10, .d (I .i64 (lackF (hallF k b l) s))), (11, .d (I .i64 (p2 k : Int))), (13, .d (I .i64 s)), (14, .d (I .i64 (someN i s : Int))), (15, .o 0 0 b), (16, .d (I .i64 ((s / p2 i : Nat) : Int))), (17, .d (I .i64 i))], bx := [], rw := [some ⟨1, ((List.range b).map (hasF l s i)).map Bo⟩] })
            (fun i => i ≤ k) (fun i => k - i) 0 (by simp) ?_ ?_
          · refine Wkn.of [] [some 0] ?_
            have e1 : (List.range b).map (hasF l s 0) = List.replicate b false := by
              unfold hasF
              simp [List.map_const']
            have e2 : s / p2 0 = s := by rw [p2_zero, Nat.div_one]
            have e3 : someN 0 s = 0 := rfl
            simp (implicitDefEqProofs := false) (dsimp := false) only [e1, e2, e3, List.map_replicate, List.getD_cons_zero, List.set_cons_zero, List.set_cons_succ, Bool.and_self, Nat.reduceAdd, Nat.reduceSub, Nat.reduceMul, List.replicate, evK_go, reduceIte, Nat.reduceEqDiff, Nat.reduceLT, and_self, List.foldl_cons, List.foldl_nil, Int.cast_ofNat_Int, slots, wkL_nil, wkL_cons, wkB_nil, wkR_nil, wkR_some, wkV_j, wkV_d, wkV_o, frz_d, oK_zs, reduceCtorEq]
          · intro i hi
            simp (implicitDefEqProofs := false) (dsimp := false) only [slots, ↓aw_cond, ↓aw_seq, ↓aw_reg, ↓Qseq_n, ↓ops_nil, ↓ops_cons, ↓eval_tmp, ↓put_some, ↓bK_b, ↓binE_i, ↓bi_lss, ↓op_move, ↓op_bin, List.getD_cons_zero, List.getD_cons_succ, List.set_cons_zero, List.set_cons_succ, Nat.reduceAdd, Nat.reduceSub, Nat.reduceMul, List.replicate, evK_go, reduceIte, Nat.reduceEqDiff, Nat.reduceLT, List.foldl_cons, List.foldl_nil, Int.ofNat_lt]
            have hbit := p2_bit s i
            have hsm : someN i s ≤ i := by unfold someN; have := List.countP_le_length (p := fun i => s.testBit i) (l := List.range i); simpa using this
            have hss : someN (i + 1) s = someN i s + if s.testBit i then 1 else 0 := by
              unfold someN
              rw [List.range_succ, List.countP_append]
              simp [List.countP_cons]
            have hdiv : s / p2 (i + 1) = s / p2 i / 2 := by rw [p2_succ, Nat.div_div_eq_div_mul, Nat.mul_comm]
            have hle : s / p2 i ≤ s := Nat.div_le_self _ _
            have hpk := p2_le (k := k) (by omega)
            refine cdK_dec (fun h2 => ?_) (fun h2 => ?_)
            · have e : decide (((s / p2 i : Nat) : Int) % 2 = 1) = s.testBit i := by
                rw [hbit, decide_eq_decide]; omega
              have e5 : ((s / p2 i : Nat) : Int) / 2 = ((s / p2 (i + 1) : Nat) : Int) := by rw [hdiv]; omega
              have hq := Nat.zero_le (s / p2 (i + 1))
              have hle2 : s / p2 (i + 1) ≤ s := Nat.div_le_self _ _
              generalize hr2 : s / p2 (i + 1) = r2 at hq hle2 e5 hdiv ⊢
              generalize s / p2 i = r at *
              simp (implicitDefEqProofs := false) (dsimp := false) only [e, ↓aw_cond, ↓aw_seq, ↓aw_block, ↓aw_skip, ↓aw_reg, ↓Qseq_n, ↓ops_nil, ↓ops_cons, ↓eval_tmp, ↓eval_int, ↓put_some, ↓bK_b, ↓binE_i, ↓bi_rem, ↓bi_eql, ↓op_move, ↓op_bin, List.getD_cons_zero, List.getD_cons_succ, List.set_cons_zero, List.set_cons_succ, Bool.true_and, Nat.reduceAdd, Nat.reduceSub, Nat.reduceMul, evK_go, reduceIte, Nat.reduceEqDiff, Nat.reduceLT, true_and, Int.natCast_nonneg]
              refine ⟨by omega, cdK_split (fun hb => ?_) (fun hb => ?_)⟩
              · rw [if_pos hb] at hss
                simp (implicitDefEqProofs := false) (dsimp := false) only [↓aw_seq, ↓aw_block, ↓aw_loop, ↓aw_reg, ↓Qseq_n, ↓ops_nil, ↓ops_cons, ↓eval_tmp, ↓eval_int, ↓put_some, ↓binE_i, ↓bi_add, ↓in_i64, ↓op_move, ↓op_assign, ↓op_bin, List.getD_cons_zero, List.getD_cons_succ, List.set_cons_zero, List.set_cons_succ, Nat.reduceAdd, Nat.reduceSub, Nat.reduceMul, evK_go, reduceIte, Nat.reduceEqDiff, Nat.reduceLT]
                refine ⟨by omega, ?_⟩
                refine loopW (fun j : Nat => { tm := slots 105 [(0, .d (I .i64 (k : Int))), (1, .d (I .i64 (b : Int))), (2, .d (.l (l.map lnD))), (8, .d (I .i64 (n : Int))), (10, .d (I .i64 (lackF (hallF k b l) s))), (11, .d (I .i64 (p2 k : Int))), (13, .d (I .i64 s)), (14, .d (I .i64 (someN i s + 1 : Nat))), (15, .o 0 0 b), (16, .d (I .i64 (r : Int))), (17, .d (I .i64 i)), (18, .d (I .i64 j))], bx := [], rw := [some ⟨1, (partF (hasF l s (i + 1)) (hasF l s i) b j).map Bo⟩] })
                  (fun j => j ≤ b) (fun j => b - j) 0 (by simp) ?_ ?_
                · refine Wkn.of [] [some 0] ?_
                  simp (implicitDefEqProofs := false) (dsimp := false) only [partF_zero, List.getD_cons_zero, List.set_cons_zero, List.set_cons_succ, Bool.and_self, Nat.reduceAdd, Nat.reduceSub, Nat.reduceMul, List.replicate, evK_go, reduceIte, Nat.reduceEqDiff, Nat.reduceLT, and_self, List.foldl_cons, List.foldl_nil, Int.cast_ofNat_Int, Int.natCast_add, slots, wkL_nil, wkL_cons, wkB_nil, wkR_nil, wkR_some, wkV_j, wkV_d, wkV_o, frz_d, oK_zs, reduceCtorEq]
                · intro j hj
                  have hpl := partF_len (hasF l s (i + 1)) (hasF l s i) b j
                  have hps := fun h => partF_set (hasF l s (i + 1)) (hasF l s i) (n := b) (q := j) h
                  have hpg := fun h => partF_get (hasF l s (i + 1)) (hasF l s i) (n := b) (q := j) h
                  have hfs := hasF_succ l s i j
                  rw [hb, Bool.true_and] at hfs
                  simp (implicitDefEqProofs := false) (dsimp := false) only [slots, ↓aw_cond, ↓aw_seq, ↓aw_reg, ↓Qseq_n, ↓ops_nil, ↓ops_cons, ↓eval_tmp, ↓put_some, ↓bK_b, ↓binE_i, ↓bi_lss, ↓op_move, ↓op_bin, List.getD_cons_zero, List.getD_cons_succ, List.set_cons_zero, List.set_cons_succ, Nat.reduceAdd, Nat.reduceSub, Nat.reduceMul, List.replicate, evK_go, reduceIte, Nat.reduceEqDiff, Nat.reduceLT, List.foldl_cons, List.foldl_nil, Int.cast_ofNat_Int, Int.natCast_add, Int.ofNat_lt]
                  refine cdK_dec (fun h3 => ?_) (fun h3 => ?_)
                  · have hps := hps h3
                    have hpg := hpg h3
                    generalize partF (hasF l s (i + 1)) (hasF l s i) b j = Pj at hpl hps hpg ⊢
                    have h3' : j < Pj.length := by omega
                    cases hc1 : hasF l s i j with
                    | true =>
                      rw [hc1, Bool.true_or] at hfs
                      rw [hc1] at hpg
                      rw [hfs] at hps
                      simp (implicitDefEqProofs := false) (dsimp := false) only [h3, hpl, hpg, ↓cdK_true, ↓gdK_f, ↓gval_mk, ↓gvL_zero, ↓gvL_succ, ↓optK_some, ↓rwK_mk_, ↓atK_H, ↓atH_map, ↓nthK_H, ↓nthH_zero, ↓aw_seq, ↓aw_block, ↓aw_skip, ↓aw_reg, ↓Qseq_n, ↓Qblk_n, ↓ops_nil, ↓ops_cons, ↓ops_guard, ↓eval_tmp, ↓eval_int, ↓eval_bool, ↓put_some, ↓put_none, ↓bK_b, ↓iK_i, ↓dK_d, ↓binE_i, ↓bi_add, ↓in_i64, ↓ldK_e, ↓iaK_o, ↓op_move, ↓op_assign, ↓op_pick, ↓op_load, ↓op_bin, ↓op_ia, ↓op_store, ↓setRow_mk, ↓st_tm, ↓row_sz, ↓row_xs, ↓cells_c, ↓one_b, ↓st_e, ↓ty4, ↓sl38, List.getD_cons_zero, List.getD_cons_succ, List.set_cons_zero, List.set_cons_succ, List.length_cons, List.length_nil, List.all_cons, List.all_nil, Bool.true_and, Bool.and_self, Nat.reduceAdd, Nat.reduceSub, Nat.reduceMul, Nat.zero_add, Int.toNat_natCast, evK_go, reduceIte, decide_true, Nat.reduceEqDiff, Nat.reduceLT, and_self, true_and, Int.zero_add, Int.cast_ofNat_Int, Int.natCast_add, Int.ofNat_lt, Int.natCast_nonneg]
                      refine ⟨by omega, j + 1, by omega, by omega, ?_⟩
                      refine Wkn.of [] [some 0] ?_
                      simp (implicitDefEqProofs := false) (dsimp := false) only [← hps, List.map_set, List.getD_cons_zero, List.set_cons_zero, List.set_cons_succ, Bool.and_self, Nat.reduceAdd, Nat.reduceSub, Nat.reduceMul, List.replicate, evK_go, reduceIte, Nat.reduceEqDiff, Nat.reduceLT, and_self, List.foldl_cons, List.foldl_nil, Int.cast_ofNat_Int, Int.natCast_add, slots, wkL_nil, wkL_cons, wkB_nil, wkR_nil, wkR_some, wkV_j, wkV_d, wkV_o, frz_d, oK_zs, reduceCtorEq]
                    | false =>
                      rw [hc1, Bool.false_or] at hfs
                      rw [hc1] at hpg
                      rw [hfs] at hps
                      simp (implicitDefEqProofs := false) (dsimp := false) only [h3, hpl, hpg, goes_call, hl62, ↓cdK_false, ↓gdK_f, ↓gval_mk, ↓gvL_zero, ↓gvL_succ, ↓optK_some, ↓rwK_mk_, ↓atK_H, ↓atH_map, ↓nthK_H, ↓nthH_zero, ↓aw_seq, ↓aw_block, ↓aw_skip, ↓aw_reg, ↓Qseq_n, ↓Qblk_n, ↓ops_nil, ↓ops_cons, ↓ops_guard, ↓eval_tmp, ↓eval_int, ↓eval_func, ↓put_some, ↓put_none, ↓bK_b, ↓iK_i, ↓dK_d, ↓binE_i, ↓bi_add, ↓in_i64, ↓ldK_e, ↓iaK_o, ↓op_move, ↓op_assign, ↓op_pick, ↓op_load, ↓op_bin, ↓op_ia, ↓op_call, ↓op_store, isD_d, ↓fnK_f, ↓call_H, ↓callK_H, ↓allT_nil, ↓allT_cons, ↓td_d, ↓setRow_mk, ↓st_tm, ↓row_sz, ↓row_xs, ↓cells_c, ↓one_b, ↓st_e, ↓ty4, ↓sl38, List.getD_cons_zero, List.getD_cons_succ, List.set_cons_zero, List.set_cons_succ, List.append_nil, List.length_cons, List.length_nil, List.all_cons, List.all_nil, Bool.true_and, Bool.and_self, Bool.true_or, Nat.reduceAdd, Nat.reduceSub, Nat.reduceMul, Nat.zero_add, Int.toNat_natCast, evK_go, reduceIte, decide_true, Nat.reduceEqDiff, Nat.reduceLT, and_self, true_and, Int.zero_add, Int.cast_ofNat_Int, Int.natCast_add, Int.ofNat_lt, Int.natCast_nonneg]
                      (repeat refine OrH.l ?_)
                      refine ⟨by omega, j + 1, by omega, by omega, ?_⟩
                      refine Wkn.of [] [some 0] ?_
                      simp (implicitDefEqProofs := false) (dsimp := false) only [← hps, List.map_set, List.getD_cons_zero, List.set_cons_zero, List.set_cons_succ, Bool.and_self, Nat.reduceAdd, Nat.reduceSub, Nat.reduceMul, List.replicate, evK_go, reduceIte, Nat.reduceEqDiff, Nat.reduceLT, and_self, List.foldl_cons, List.foldl_nil, Int.cast_ofNat_Int, Int.natCast_add, slots, wkL_nil, wkL_cons, wkB_nil, wkR_nil, wkR_some, wkV_j, wkV_d, wkV_o, frz_d, oK_zs, reduceCtorEq]
                  · obtain rfl : j = b := by omega
                    simp (implicitDefEqProofs := false) (dsimp := false) only [e5, ↓optK_some, ↓rwK_mk_, ↓aw_seq, ↓aw_exit, ↓aw_ret, ↓aw_reg, ↓Qseq_n, ↓Qseq_x, ↓Qblk_n, ↓Qblk_x, ↓Qret_r, ↓ops_nil, ↓ops_cons, ↓eval_tmp, ↓eval_int, ↓eval_func, ↓put_some, ↓binE_i, ↓bi_add, ↓bi_sub, ↓bi_quo, ↓bi_eql, ↓in_i64, ↓op_move, ↓op_assign, ↓op_bin, ↓op_call, isD_d, isD_o, ↓fnK_f, ↓call_H, ↓callK_H, ↓allT_nil, ↓allT_cons, ↓td_d, ↓td_o, ↓ret_1, ↓row_xs, List.getD_cons_zero, List.getD_cons_succ, List.set_cons_zero, List.set_cons_succ, List.append_nil, List.all_cons, List.all_nil, Bool.and_true, Bool.true_and, Bool.and_false, Nat.reduceAdd, Nat.reduceSub, Nat.reduceMul, evK_go, reduceIte, decide_false, Nat.reduceEqDiff, Nat.reduceLT, true_and, and_true, Nat.lt_irrefl, List.drop_zero, Int.natCast_nonneg]
                    refine ⟨by omega, by omega, i + 1, by omega, by omega, ?_⟩
                    refine Wkn.of [] [some 0] ?_
                    simp (implicitDefEqProofs := false) (dsimp := false) only [hss, hr2, partF_all, List.getD_cons_zero, List.set_cons_zero, List.set_cons_succ, Bool.and_self, Nat.reduceAdd, Nat.reduceSub, Nat.reduceMul, List.replicate, evK_go, reduceIte, Nat.reduceEqDiff, Nat.reduceLT, and_self, List.foldl_cons, List.foldl_nil, Int.cast_ofNat_Int, Int.natCast_add, slots, wkL_nil, wkL_cons, wkB_nil, wkR_nil, wkR_some, wkV_j, wkV_d, wkV_o, frz_d, oK_zs, reduceCtorEq]
              · rw [if_neg (by rw [hb]; decide)] at hss
                simp (implicitDefEqProofs := false) (dsimp := false) only [e5, ↓aw_skip, ↓aw_reg, ↓Qseq_n, ↓Qblk_n, ↓ops_nil, ↓ops_cons, ↓eval_tmp, ↓eval_int, ↓put_some, ↓binE_i, ↓bi_add, ↓bi_quo, ↓in_i64, ↓op_move, ↓op_assign, ↓op_bin, List.getD_cons_zero, List.getD_cons_succ, List.set_cons_zero, List.set_cons_succ, Bool.true_and, Nat.reduceAdd, Nat.reduceSub, Nat.reduceMul, evK_go, reduceIte, Nat.reduceEqDiff, Nat.reduceLT, true_and, Int.natCast_nonneg]
                have hfe : ∀ j, hasF l s (i + 1) j = hasF l s i j := fun j => by rw [hasF_succ, hb, Bool.false_and, Bool.or_false]
                have hfe : hasF l s (i + 1) = hasF l s i := funext hfe
                refine ⟨by omega, by omega, i + 1, by omega, by omega, ?_⟩
                refine Wkn.of [] [some 0] ?_
                simp (implicitDefEqProofs := false) (dsimp := false) only [hss, hr2, hfe, Nat.add_zero, List.getD_cons_zero, List.set_cons_zero, List.set_cons_succ, Bool.and_self, Nat.reduceAdd, Nat.reduceSub, Nat.reduceMul, Nat.add_zero, List.replicate, evK_go, reduceIte, Nat.reduceEqDiff, Nat.reduceLT, and_self, List.foldl_cons, List.foldl_nil, Int.cast_ofNat_Int, Int.natCast_add, slots, wkL_nil, wkL_cons, wkB_nil, wkR_nil, wkR_some, wkV_j, wkV_d, wkV_o, frz_d, oK_zs, reduceCtorEq]
            · obtain rfl : i = k := by omega
              have htk : List.take b (List.map Bo (List.map (hasF l s i) (List.range b))) = List.map Bo (List.map (hasF l s i) (List.range b)) := List.take_of_length_le (by simp)
              have hmb : ((List.range b).map (hasF l s i)).length < 2 ^ 43 := by simp; omega
              simp (implicitDefEqProofs := false) (dsimp := false) only [htk, misses_call, List.length_map, List.length_range, ↓optK_some, ↓rwK_mk_, ↓aw_cond, ↓aw_seq, ↓aw_exit, ↓aw_ret, ↓aw_reg, ↓Qseq_n, ↓Qseq_x, ↓Qblk_x, ↓Qret_r, ↓ops_nil, ↓ops_cons, ↓eval_tmp, ↓eval_int, ↓eval_func, ↓put_some, ↓bK_b, ↓binE_i, ↓bi_add, ↓bi_sub, ↓bi_eql, ↓bi_gtr, ↓in_i64, ↓op_move, ↓op_assign, ↓op_bin, ↓op_call, isD_d, isD_o, ↓fnK_f, ↓call_H, ↓callK_H, ↓allT_nil, ↓allT_cons, ↓td_d, ↓td_o, ↓ret_1, ↓row_xs, List.getD_cons_zero, List.getD_cons_succ, List.set_cons_zero, List.set_cons_succ, List.append_nil, List.length_map, List.all_cons, List.all_nil, Bool.and_true, Bool.and_false, Bool.false_or, Nat.reduceAdd, Nat.reduceSub, Nat.reduceMul, evK_go, reduceIte, decide_false, Nat.reduceEqDiff, Nat.reduceLT, and_true, Nat.lt_irrefl, List.drop_zero]
              have hml : missN ((List.range b).map (hasF l s i)) ≤ b := by
                unfold missN
                refine Nat.le_trans List.countP_le_length ?_
                simp
              have hsu : lackF (hallF i b l) (s + 1) = if hallF i b l s > lackF (hallF i b l) s then hallF i b l s else lackF (hallF i b l) s := rfl
              have ehf : (someN i s : Int) - (b : Int) + (missN ((List.range b).map (hasF l s i)) : Nat) = hallF i b l s := rfl
              refine ⟨by omega, ?_⟩
              (repeat refine OrH.l ?_)
              refine ⟨by omega, rfl, by omega, ?_⟩
              rw [ehf]
              refine cdK_dec (fun h5 => ?_) (fun h5 => ?_)
              · rw [if_pos (show hallF i b l s > lackF (hallF i b l) s from h5)] at hsu
                simp (implicitDefEqProofs := false) (dsimp := false) only [↓optK_some, ↓rwK_mk_, ↓aw_reg, ↓ops_cons, ↓eval_tmp, ↓eval_func, ↓put_some, ↓binE_i, ↓bi_sub, ↓in_i64, ↓op_move, ↓op_bin, ↓op_call, isD_d, isD_o, ↓fnK_f, ↓call_H, ↓callK_H, ↓allT_nil, ↓allT_cons, ↓td_d, ↓td_o, ↓row_xs, List.getD_cons_zero, List.getD_cons_succ, List.set_cons_zero, List.set_cons_succ, List.append_nil, List.all_cons, List.all_nil, Bool.and_true, Bool.and_false, Nat.reduceAdd, Nat.reduceSub, Nat.reduceMul, evK_go, reduceIte, Nat.reduceEqDiff, Nat.reduceLT, and_true, List.drop_zero]
                simp (implicitDefEqProofs := false) (dsimp := false) only [htk, misses_call, List.length_map, List.length_range, ↓aw_reg, ↓Qseq_n, ↓Qblk_n, ↓ops_nil, ↓ops_cons, ↓eval_tmp, ↓eval_int, ↓put_some, ↓binE_i, ↓bi_add, ↓in_i64, ↓op_move, ↓op_assign, ↓op_bin, List.getD_cons_zero, List.getD_cons_succ, List.set_cons_zero, List.set_cons_succ, List.length_map, Bool.false_or, Nat.reduceAdd, Nat.reduceSub, Nat.reduceMul, evK_go, reduceIte, Nat.reduceEqDiff, Nat.reduceLT]
                refine ⟨by omega, ?_⟩
                (repeat refine OrH.l ?_)
                refine ⟨by omega, rfl, by omega, by omega, s + 1, by omega, by omega, ?_⟩
                rw [ehf]
                refine Wkn.of [] [] ?_; simp (implicitDefEqProofs := false) (dsimp := false) only [hsu, List.set_cons_zero, List.set_cons_succ, Bool.and_self, Nat.reduceAdd, Nat.reduceSub, Nat.reduceMul, List.replicate, evK_go, reduceIte, Nat.reduceEqDiff, Nat.reduceLT, and_self, List.foldl_cons, List.foldl_nil, Int.cast_ofNat_Int, Int.natCast_add, slots, wkL_nil, wkL_cons, wkB_nil, wkR_nil, wkV_j, wkV_d, frz_d, reduceCtorEq]
              · rw [if_neg (show ¬ hallF i b l s > lackF (hallF i b l) s from h5)] at hsu
                simp (implicitDefEqProofs := false) (dsimp := false) only [↓aw_skip, ↓aw_reg, ↓Qseq_n, ↓Qblk_n, ↓ops_nil, ↓ops_cons, ↓eval_tmp, ↓eval_int, ↓put_some, ↓binE_i, ↓bi_add, ↓in_i64, ↓op_move, ↓op_assign, ↓op_bin, List.getD_cons_zero, List.getD_cons_succ, List.set_cons_zero, List.set_cons_succ, Nat.reduceAdd, Nat.reduceSub, Nat.reduceMul, evK_go, reduceIte, Nat.reduceEqDiff, Nat.reduceLT]
                refine ⟨by omega, s + 1, by omega, by omega, ?_⟩
                refine Wkn.of [] [] ?_; simp (implicitDefEqProofs := false) (dsimp := false) only [hsu, List.set_cons_zero, List.set_cons_succ, Bool.and_self, Nat.reduceAdd, Nat.reduceSub, Nat.reduceMul, List.replicate, evK_go, reduceIte, Nat.reduceEqDiff, Nat.reduceLT, and_self, List.foldl_cons, List.foldl_nil, Int.cast_ofNat_Int, Int.natCast_add, slots, wkL_nil, wkL_cons, wkB_nil, wkR_nil, wkV_j, wkV_d, frz_d, reduceCtorEq]
        · obtain rfl : s = p2 k := by omega
          simp (implicitDefEqProofs := false) (dsimp := false) only [↓aw_seq, ↓aw_exit, ↓aw_ret, ↓aw_reg, ↓Qseq_n, ↓Qseq_x, ↓Qblk_x, ↓Qret_r, ↓ops_nil, ↓ops_cons, ↓eval_tmp, ↓put_some, ↓binE_i, ↓bi_sub, ↓bi_eql, ↓in_i64, ↓op_move, ↓op_assign, ↓op_bin, ↓td_d, ↓ret_1, List.getD_cons_zero, List.getD_cons_succ, List.set_cons_zero, List.set_cons_succ, Nat.reduceAdd, Nat.reduceSub, Nat.reduceMul, evK_go, reduceIte, decide_false, Nat.reduceEqDiff, Nat.reduceLT, Nat.lt_irrefl]
          obtain ⟨b1, b2, b3⟩ := lackF_spec (hallF k b l) (p2 k)
          have hm := Nat.zero_le n
          refine ⟨by omega, ?_⟩
          rw [decide_eq_true hw]
end Go.Proofs

namespace Go.Proofs
set_option maxRecDepth 100000
theorem cutNo : ("cut".toList == "gc".toList || "cut".toList == "spec".toList) = false := by kernel_rfl
theorem cutNo2 : ("cut".toList == "carried".toList) = false := by kernel_rfl
theorem cutStrip (T : List (List Char)) : stripLifts liftWords ("cut".toList :: T) = ([], "cut".toList :: T) := by kernel_rfl
theorem make_of {P : Program} {T : List (List Char)} (h : behindMainWord (wordsSigns P.initOrder.toList) = "cut".toList :: T) : P.make = some .cut := by
  unfold Program.make
  rw [h]
  simp (implicitDefEqProofs := false) (dsimp := false) only [cutNo, beq_self_eq_true, Bool.true_or, Bool.false_eq_true, if_false, if_true]
theorem enter_of {P : Program} {T : List (List Char)} (h : behindMainWord (wordsSigns P.initOrder.toList) = "cut".toList :: T) (h1 : P.laysLater = false) (h2 : P.bearsReflect = false) (h3 : P.doorRows = []) : P.mayEnter = true := by
  unfold Program.mayEnter
  rw [h]
  simp (implicitDefEqProofs := false) (dsimp := false) only [cutStrip, cutNo, cutNo2, h1, h2, Program.doorFits, h3, List.head?_cons, beq_self_eq_true, Bool.not_false, Bool.or_true, Bool.and_true, Bool.true_and]
  rfl
theorem final_of {P : Program} {T : List (List Char)} (h : behindMainWord (wordsSigns P.initOrder.toList) = "cut".toList :: T) : P.liftsFinal = false := by
  unfold Program.liftsFinal Program.headLifts
  rw [h]
  simp (implicitDefEqProofs := false) (dsimp := false) only [cutStrip]
  kernel_rfl
theorem cutWord : behindMainWord (wordsSigns Try.prog.initOrder.toList) = "cut".toList :: (behindMainWord (wordsSigns Try.prog.initOrder.toList)).tail := by
  have h : Try.prog.initOrder.toList = _ := String.toList_ofList
  rw [h]
  show (_ : List (List Char)) = _
  kernel_rfl
theorem pLater : Try.prog.laysLater = false := by
  unfold Program.laysLater
  rw [← Array.any_toList]
  kernel_rfl
theorem pReflect : Try.prog.bearsReflect = false := by kernel_rfl
theorem pDoor : Try.prog.doorRows = [] := by kernel_rfl
theorem pMake : Try.prog.make = some .cut := make_of cutWord
theorem pEnter : Try.prog.mayEnter = true := enter_of cutWord pLater pReflect pDoor
theorem pFinal : Try.prog.liftsFinal = false := final_of cutWord
theorem pLaid : laidOutB Try.prog = true := by kernel_rfl
theorem pRowed : mapsRowed Try.prog = true := by kernel_rfl
theorem pStops : (Try.prog.stops == []) = true := by kernel_rfl
theorem pKnobs : (Try.prog.stopKnobs == []) = true := by kernel_rfl
theorem pHeard : Try.prog.stopsHeard = true := by kernel_rfl
theorem pOwn : ownKnob Try.prog.godebug = none := by kernel_rfl
theorem andB {a b : Bool} (ha : a = true) (hb : b = true) : (a && b) = true := by rw [ha, hb]; rfl
end Go.Proofs
