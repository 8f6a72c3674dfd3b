/- Part W 2 of what the proof of ChainSays stands on: what the functions of the program compute. -/
import Derived.Test.YtblhpmhfhpmifaaDoorW1
import Derived.ChangeSlices
set_option linter.unusedVariables false
set_option linter.unusedSimpArgs false
namespace Go.Proofs
open Go.Aw
set_option linter.unusedSimpArgs false
set_option maxRecDepth 10000
theorem hasN_spec (s : List Nat) (x : Nat) (hpre : s.length < 2 ^ 62) : FnD Tryd.prog 41 [.l (s.map nD), I .i64 (x : Int)] (Bo (decide (x ∈ s))) := by
  have h := hasR_spec (s.map Int.ofNat) (x : Int) (by simpa using hpre)
  rw [← nD_ints] at h
  have e : decide ((x : Int) ∈ s.map Int.ofNat) = decide (x ∈ s) := by
    rw [decide_eq_decide]
    constructor
    · intro h
      obtain ⟨y, hy, e⟩ := List.mem_map.1 h
      rw [← Int.ofNat.inj e]; exact hy
    · intro h; exact List.mem_map.2 ⟨x, h, rfl⟩
  rw [e] at h
  exact h
theorem hasN_call (s : List Nat) (x : Nat) (pure : Bool) (σ : St) (dst : Option Tmp) (K : St → Prop) : CallH Tryd.prog 41 [.l (s.map nD), I .i64 (x : Int)] pure σ dst (.mk : Hid K) = OrH ((s.length < 2 ^ 62) ∧ (pure || D.flat (Bo (decide (x ∈ s)))) = true ∧ evK (σ.put dst (.d (Bo (decide (x ∈ s))))) (.mk : Hid K)) (.mk : Hid (CallH Tryd.prog 41 [.l (s.map nD), I .i64 (x : Int)] pure σ dst (.mk : Hid K))) := CallH.eq (hasN_spec s x) pure σ dst K
theorem rord_spec (m : Nat) (L : List (Nat × Nat)) (hpre : (1 ≤ m ∧ m ≤ 8) ∧ L.length < 2 ^ 62 ∧ Good m L) : FnD Tryd.prog 21 [I .i64 (m : Int), .l (L.map lnN)] (.t [.l (((topoO m L).getD []).map nD), Bo (topoO m L).isSome]) := by
  obtain ⟨⟨h1, h8⟩, hL, hg⟩ := hpre
  have hn : m ≤ 64 := by omega
  refine FnD.go Tryd.func21 rfl rfl Tryd.results21 Tryd.ntmps21 ?_
  simp (implicitDefEqProofs := false) (dsimp := false) only [↓aw_seq, ↓aw_block, ↓aw_loop, ↓aw_reg, ↓Qseq_n, ↓ops_nil, ↓ops_cons, ↓eval_bool, ↓eval_nil, ↓put_some, ↓op_assign, List.set_cons_zero, List.set_cons_succ, List.cons_append, List.nil_append, List.map_cons, List.map_nil, List.length_cons, List.length_nil, Nat.reduceAdd, Nat.reduceSub, Nat.reduceMul, Nat.zero_add, List.replicate, evK_go, reduceIte, Nat.reduceEqDiff, Nat.reduceLT, Int.zero_add]
  refine loopW (fun x : Nat × List Nat => { tm := slots 59 [(0, .d (I .i64 (m : Int))), (1, .d (.l (L.map lnN))), (6, .o 0 0 x.2.length)], bx := [], rw := [some ⟨1, x.2.map nD⟩] })
    (fun x => x.2.length ≤ m ∧ TI m L x.1 x.2 ∧ topoO m L = topoGo (outS m L) (m - x.2.length) x.1 x.2) (fun x => m - x.2.length) (2 ^ m - 1, []) ⟨by simp, .start m L, rfl⟩ ?_ ?_
  · refine Wkn.of [] [none] ?_
    simp (implicitDefEqProofs := false) (dsimp := false) only [↓row_xs, List.set_cons_zero, List.set_cons_succ, List.map_nil, List.length_nil, Bool.and_self, Nat.reduceAdd, Nat.reduceSub, Nat.reduceMul, List.replicate, evK_go, reduceIte, Nat.reduceEqDiff, Nat.reduceLT, and_self, List.foldl_cons, List.foldl_nil, slots, wkL_nil, wkL_cons, wkB_nil, wkR_nil, wkR_new, wkV_j, wkV_d, nlK_nl, wkV_o, frz_d, oK_zn, reduceCtorEq]
  · rintro ⟨left, acc⟩ ⟨ha, hTI, hgo⟩
    simp only at ha hTI hgo
    have ht : List.take acc.length (List.map nD acc) = List.map nD acc := List.take_of_length_le (by simp)
    have ha62 : acc.length < 2 ^ 62 := by omega
    have hbl := bst_low hn hg hTI
    simp (implicitDefEqProofs := false) (dsimp := false) only [slots, ↓optK_some, ↓rwK_mk_, ↓aw_cond, ↓aw_seq, ↓aw_reg, ↓Qseq_n, ↓ops_nil, ↓ops_cons, ↓eval_tmp, ↓put_some, ↓bK_b, ↓lenK_o, ↓binE_i, ↓bi_lss, ↓op_move, ↓op_bin, ↓op_len, ↓sl24, List.getD_cons_zero, List.getD_cons_succ, List.set_cons_zero, List.set_cons_succ, Nat.reduceAdd, Nat.reduceSub, Nat.reduceMul, List.replicate, evK_go, reduceIte, Nat.reduceEqDiff, Nat.reduceLT, List.foldl_cons, List.foldl_nil, Int.ofNat_lt]
    refine cdK_dec (fun h => ?_) (fun h => ?_)
    rotate_left
    · have e : m - acc.length = 0 := by omega
      rw [hgo, e]
      simp (implicitDefEqProofs := false) (dsimp := false) only [topoGo, ht, ↓optK_some, ↓rwK_mk_, ↓aw_seq, ↓aw_exit, ↓aw_ret, ↓aw_reg, ↓Qseq_n, ↓Qseq_x, ↓Qblk_x, ↓Qret_r, ↓ops_nil, ↓ops_cons, ↓eval_tmp, ↓eval_bool, ↓put_some, ↓op_move, ↓op_assign, ↓td_d, ↓td_o, ↓ret_2, ↓row_xs, List.getD_cons_zero, List.getD_cons_succ, List.set_cons_zero, List.set_cons_succ, Nat.reduceAdd, Nat.reduceSub, Nat.reduceMul, evK_go, reduceIte, Nat.reduceEqDiff, Nat.reduceLT, Option.getD_some, List.drop_zero]
      rfl
    have hst := go_step hTI (by omega)
    rw [hst] at hgo
    simp (implicitDefEqProofs := false) (dsimp := false) only [↓aw_seq, ↓aw_block, ↓aw_skip, ↓aw_loop, ↓aw_reg, ↓Qseq_n, ↓ops_nil, ↓ops_cons, ↓eval_tmp, ↓eval_int, ↓put_some, ↓binE_i, ↓bi_sub, ↓in_i64, ↓op_move, ↓op_assign, ↓op_bin, List.getD_cons_zero, List.getD_cons_succ, List.set_cons_zero, List.set_cons_succ, Nat.reduceAdd, Nat.reduceSub, Nat.reduceMul, evK_go, reduceIte, Nat.reduceEqDiff, Nat.reduceLT]
    refine ⟨by omega, ?_⟩
    refine loopW (fun c : Nat => { tm := slots 59 [(0, .d (I .i64 (m : Int))), (1, .d (.l (L.map lnN))), (6, .o 0 0 acc.length), (7, .d (I .i64 (bst (freeR L acc) m c))), (8, .d (I .i64 ((m : Int) - 1 - c)))], bx := [], rw := [some ⟨1, acc.map nD⟩] })
      (fun c => c ≤ m) (fun c => m - c) 0 (by simp) ?_ ?_
    · refine Wkn.of [] [some 0] ?_
      simp (implicitDefEqProofs := false) (dsimp := false) only [bst, Int.sub_zero, List.getD_cons_zero, List.set_cons_zero, List.set_cons_succ, Bool.and_self, Nat.reduceAdd, Nat.reduceSub, Nat.reduceMul, List.replicate, evK_go, reduceIte, Nat.reduceEqDiff, Nat.reduceLT, and_self, List.foldl_cons, List.foldl_nil, Int.cast_ofNat_Int, slots, wkL_nil, wkL_cons, wkB_nil, wkR_nil, wkR_some, wkV_j, wkV_d, wkV_o, frz_d, oK_zs, reduceCtorEq]
    · intro c hc
      simp (implicitDefEqProofs := false) (dsimp := false) only [slots, ↓aw_cond, ↓aw_seq, ↓aw_reg, ↓Qseq_n, ↓ops_nil, ↓ops_cons, ↓eval_tmp, ↓eval_int, ↓put_some, ↓bK_b, ↓binE_i, ↓bi_geq, ↓op_move, ↓op_bin, List.getD_cons_zero, List.getD_cons_succ, List.set_cons_zero, List.set_cons_succ, Nat.reduceAdd, Nat.reduceSub, Nat.reduceMul, List.replicate, evK_go, reduceIte, Nat.reduceEqDiff, Nat.reduceLT, List.foldl_cons, List.foldl_nil]
      refine cdK_dec (fun h2 => ?_) (fun h2 => ?_)
      · have hcm : c < m := by omega
        obtain ⟨i, hi⟩ : ∃ i, i = m - c - 1 := ⟨_, rfl⟩
        have ei : (m : Int) - 1 - (c : Int) = (i : Int) := by omega
        have hbs : bst (freeR L acc) m (c + 1) = if freeR L acc i = true then (i : Int) else bst (freeR L acc) m c := by rw [hi]; rfl
        simp (implicitDefEqProofs := false) (dsimp := false) only [ei, ht, hasN_call, ha62, ↓optK_some, ↓rwK_mk_, ↓aw_seq, ↓aw_block, ↓aw_skip, ↓aw_loop, ↓aw_reg, ↓Qseq_n, ↓ops_nil, ↓ops_cons, ↓eval_tmp, ↓eval_int, ↓eval_func, ↓put_some, ↓bK_b, ↓op_move, ↓op_assign, ↓op_not, ↓op_call, isD_d, isD_o, ↓fnK_f, ↓call_H, ↓callK_H, ↓allT_nil, ↓allT_cons, ↓td_d, ↓td_o, ↓row_xs, List.getD_cons_zero, List.getD_cons_succ, List.set_cons_zero, List.set_cons_succ, List.append_nil, List.all_cons, List.all_nil, Bool.and_true, Bool.true_and, Bool.and_self, Bool.and_false, Bool.false_or, Nat.reduceAdd, Nat.reduceSub, Nat.reduceMul, evK_go, reduceIte, decide_true, Nat.reduceEqDiff, Nat.reduceLT, and_self, true_and, and_true, List.drop_zero, Int.natCast_nonneg]
        (repeat refine OrH.l ?_)
        refine ⟨rfl, ?_⟩
        refine loopW (fun k : Nat => { tm := slots 59 [(0, .d (I .i64 (m : Int))), (1, .d (.l (L.map lnN))), (6, .o 0 0 acc.length), (7, .d (I .i64 (bst (freeR L acc) m c))), (8, .d (I .i64 (i : Int))), (9, .d (Bo (freeR (L.take k) acc i))), (10, .d (I .i64 k))], bx := [], rw := [some ⟨1, acc.map nD⟩] })
          (fun k => k ≤ L.length) (fun k => L.length - k) 0 (by simp) ?_ ?_
        · refine Wkn.of [] [some 0] ?_
          have e0 : freeR [] acc i = !decide (i ∈ acc) := by unfold freeR; simp
          simp (implicitDefEqProofs := false) (dsimp := false) only [e0, List.getD_cons_zero, List.set_cons_zero, List.set_cons_succ, Bool.and_self, Nat.reduceAdd, Nat.reduceSub, Nat.reduceMul, List.replicate, evK_go, reduceIte, Nat.reduceEqDiff, Nat.reduceLT, and_self, List.take_zero, List.foldl_cons, List.foldl_nil, Int.cast_ofNat_Int, slots, wkL_nil, wkL_cons, wkB_nil, wkR_nil, wkR_some, wkV_j, wkV_d, wkV_o, frz_d, oK_zs, reduceCtorEq]
        · intro k hk
          simp (implicitDefEqProofs := false) (dsimp := false) only [slots, ↓aw_cond, ↓aw_seq, ↓aw_reg, ↓Qseq_n, ↓ops_nil, ↓ops_cons, ↓eval_tmp, ↓put_some, ↓bK_b, ↓lenK_l, ↓binE_i, ↓bi_lss, ↓op_move, ↓op_bin, ↓op_len, ↓sl22, List.getD_cons_zero, List.getD_cons_succ, List.set_cons_zero, List.set_cons_succ, List.length_map, Nat.reduceAdd, Nat.reduceSub, Nat.reduceMul, List.replicate, evK_go, reduceIte, Nat.reduceEqDiff, Nat.reduceLT, List.foldl_cons, List.foldl_nil, Int.ofNat_lt]
          refine cdK_dec (fun h3 => ?_) (fun h3 => ?_)
          · have hkL : k < L.length := by omega
            have hsn : freeR (L.take (k + 1)) acc i = (freeR (L.take k) acc i && (!decide ((L.getD k default).2 = i) || decide ((L.getD k default).1 ∈ acc))) := by
              unfold freeR
              rw [take_succ_getD hkL, List.all_append, Bool.and_assoc]
              simp
            generalize hab : L.getD k default = p at hsn
            obtain ⟨a, b⟩ := p
            simp only at hsn
            generalize freeR (L.take k) acc i = t at hsn ⊢
            cases t with
            | false =>
              rw [Bool.false_and] at hsn
              simp (implicitDefEqProofs := false) (dsimp := false) only [↓cdK_false, ↓gdK_junk, ↓gdK_t, ↓gval_mk, ↓gvL_zero, ↓gvL_succ, ↓aw_seq, ↓aw_block, ↓aw_skip, ↓aw_reg, ↓Qseq_n, ↓Qblk_n, ↓ops_nil, ↓ops_cons, ↓ops_guard, ↓eval_tmp, ↓eval_int, ↓eval_bool, ↓put_some, ↓bK_b, ↓binE_i, ↓bi_add, ↓in_i64, ↓op_move, ↓op_assign, ↓op_pick, ↓op_bin, ↓st_tm, List.getD_cons_zero, List.getD_cons_succ, List.set_cons_zero, List.set_cons_succ, Nat.reduceAdd, Nat.reduceSub, Nat.reduceMul, evK_go, reduceIte, Nat.reduceEqDiff, Nat.reduceLT]
              refine ⟨by omega, k + 1, by omega, by omega, ?_⟩
              refine Wkn.of [] [some 0] ?_
              simp (implicitDefEqProofs := false) (dsimp := false) only [hsn, List.getD_cons_zero, List.set_cons_zero, List.set_cons_succ, Bool.and_self, Nat.reduceAdd, Nat.reduceSub, Nat.reduceMul, List.replicate, evK_go, reduceIte, Nat.reduceEqDiff, Nat.reduceLT, and_self, List.foldl_cons, List.foldl_nil, Int.cast_ofNat_Int, Int.natCast_add, slots, wkL_nil, wkL_cons, wkB_nil, wkR_nil, wkR_some, wkV_j, wkV_d, wkV_o, frz_d, oK_zs, reduceCtorEq]
            | true =>
              rw [Bool.true_and] at hsn
              simp (implicitDefEqProofs := false) (dsimp := false) only [hkL, hab, lnN, ↓cdK_true, ↓cdK_not, ↓gdK_t, ↓gdK_f, ↓gval_mk, ↓gvL_zero, ↓gvL_succ, ↓atK_H, ↓atH_map, ↓aw_seq, ↓aw_block, ↓aw_skip, ↓aw_reg, ↓Qseq_n, ↓ops_cons, ↓ops_guard, ↓eval_tmp, ↓put_some, ↓iK_i, ↓binE_i, ↓bi_neq, ↓ldK_q, ↓faK_q, ↓iaK_l, ↓op_move, ↓op_load, ↓op_bin, ↓op_fa, ↓op_ia, ↓st_tm, ↓cells_s, ↓hd_cons, ↓ty3, ↓sl22, ↓ty41, ↓fd41_1, List.getD_cons_zero, List.getD_cons_succ, List.set_cons_zero, List.set_cons_succ, List.length_cons, List.length_nil, Bool.true_and, Nat.reduceAdd, Nat.reduceSub, Nat.reduceMul, Nat.zero_add, Int.toNat_natCast, evK_go, reduceIte, decide_true, Nat.reduceEqDiff, Nat.reduceLT, true_and, Int.zero_add, List.drop_zero, List.drop_succ_cons, Int.natCast_nonneg, Int.natCast_inj]
              cases hbi : decide (b = i) with
              | false =>
                rw [hbi] at hsn
                rw [Bool.not_false, Bool.true_or] at hsn
                simp (implicitDefEqProofs := false) (dsimp := false) only [↓cdK_true, ↓cdK_false, ↓gdK_t, ↓gdK_f, ↓gval_mk, ↓gvL_zero, ↓gvL_succ, ↓aw_reg, ↓Qseq_n, ↓Qblk_n, ↓ops_nil, ↓ops_cons, ↓ops_guard, ↓eval_tmp, ↓eval_int, ↓eval_bool, ↓put_some, ↓bK_b, ↓binE_i, ↓bi_add, ↓in_i64, ↓op_move, ↓op_assign, ↓op_pick, ↓op_bin, ↓st_tm, List.getD_cons_zero, List.getD_cons_succ, List.set_cons_zero, List.set_cons_succ, Nat.reduceAdd, Nat.reduceSub, Nat.reduceMul, evK_go, reduceIte, Bool.not_false, Nat.reduceEqDiff, Nat.reduceLT]
                refine ⟨by omega, k + 1, by omega, by omega, ?_⟩
                refine Wkn.of [] [some 0] ?_
                simp (implicitDefEqProofs := false) (dsimp := false) only [hsn, List.getD_cons_zero, List.set_cons_zero, List.set_cons_succ, Bool.and_self, Nat.reduceAdd, Nat.reduceSub, Nat.reduceMul, List.replicate, evK_go, reduceIte, Nat.reduceEqDiff, Nat.reduceLT, and_self, List.foldl_cons, List.foldl_nil, Int.cast_ofNat_Int, Int.natCast_add, slots, wkL_nil, wkL_cons, wkB_nil, wkR_nil, wkR_some, wkV_j, wkV_d, wkV_o, frz_d, oK_zs, reduceCtorEq]
              | true =>
                rw [hbi] at hsn
                rw [Bool.not_true, Bool.false_or] at hsn
                simp (implicitDefEqProofs := false) (dsimp := false) only [hkL, hab, lnN, ht, hasN_call, ha62, ↓cdK_true, ↓cdK_false, ↓gdK_t, ↓gdK_f, ↓gval_mk, ↓gvL_zero, ↓gvL_succ, ↓optK_some, ↓rwK_mk_, ↓atK_H, ↓atH_map, ↓aw_reg, ↓Qseq_n, ↓Qblk_n, ↓ops_nil, ↓ops_cons, ↓ops_guard, ↓eval_tmp, ↓eval_int, ↓eval_func, ↓put_some, ↓bK_b, ↓iK_i, ↓binE_i, ↓bi_add, ↓in_i64, ↓ldK_q, ↓faK_q, ↓iaK_l, ↓op_move, ↓op_assign, ↓op_pick, ↓op_load, ↓op_bin, ↓op_fa, ↓op_ia, ↓op_call, isD_d, isD_o, ↓fnK_f, ↓call_H, ↓callK_H, ↓allT_nil, ↓allT_cons, ↓td_d, ↓td_o, ↓st_tm, ↓row_xs, ↓cells_s, ↓hd_cons, ↓ty3, ↓sl22, ↓ty41, ↓fd41_0, List.getD_cons_zero, List.getD_cons_succ, List.set_cons_zero, List.set_cons_succ, List.append_nil, List.length_cons, List.length_nil, List.all_cons, List.all_nil, Bool.and_true, Bool.true_and, Bool.and_self, Bool.and_false, Bool.false_or, Nat.reduceAdd, Nat.reduceSub, Nat.reduceMul, Nat.zero_add, Int.toNat_natCast, evK_go, reduceIte, Bool.not_true, Nat.reduceEqDiff, Nat.reduceLT, and_self, true_and, and_true, Int.zero_add, List.drop_zero, Int.natCast_nonneg]
                (repeat refine OrH.l ?_)
                refine ⟨rfl, by omega, k + 1, by omega, by omega, ?_⟩
                refine Wkn.of [] [some 0] ?_
                simp (implicitDefEqProofs := false) (dsimp := false) only [hsn, List.getD_cons_zero, List.set_cons_zero, List.set_cons_succ, Bool.and_self, Nat.reduceAdd, Nat.reduceSub, Nat.reduceMul, List.replicate, evK_go, reduceIte, Nat.reduceEqDiff, Nat.reduceLT, and_self, List.foldl_cons, List.foldl_nil, Int.cast_ofNat_Int, Int.natCast_add, slots, wkL_nil, wkL_cons, wkB_nil, wkR_nil, wkR_some, wkV_j, wkV_d, wkV_o, frz_d, oK_zs, reduceCtorEq]
          · obtain rfl : k = L.length := by omega
            rw [List.take_length]
            simp (implicitDefEqProofs := false) (dsimp := false) only [↓optK_some, ↓rwK_mk_, ↓aw_cond, ↓aw_seq, ↓aw_exit, ↓aw_ret, ↓aw_reg, ↓Qseq_n, ↓Qseq_x, ↓Qblk_x, ↓Qret_r, ↓ops_nil, ↓ops_cons, ↓eval_tmp, ↓eval_int, ↓eval_bool, ↓put_some, ↓bK_b, ↓binE_i, ↓bi_sub, ↓bi_lss, ↓in_i64, ↓op_move, ↓op_assign, ↓op_bin, ↓td_d, ↓td_o, ↓ret_2, ↓row_xs, ↓take_map, List.getD_cons_zero, List.getD_cons_succ, List.set_cons_zero, List.set_cons_succ, Nat.reduceAdd, Nat.reduceSub, Nat.reduceMul, evK_go, reduceIte, decide_false, Nat.reduceEqDiff, Nat.reduceLT, Nat.lt_irrefl, List.drop_zero]
            cases hf : freeR L acc i with
            | true =>
              rw [hf, if_pos rfl] at hbs
              simp (implicitDefEqProofs := false) (dsimp := false) only [↓cdK_true, ↓aw_reg, ↓Qseq_n, ↓Qblk_n, ↓ops_nil, ↓ops_cons, ↓eval_tmp, ↓eval_int, ↓put_some, ↓binE_i, ↓bi_sub, ↓in_i64, ↓op_move, ↓op_assign, ↓op_bin, List.getD_cons_zero, List.getD_cons_succ, List.set_cons_zero, List.set_cons_succ, Nat.reduceAdd, Nat.reduceSub, Nat.reduceMul, evK_go, reduceIte, Nat.reduceEqDiff, Nat.reduceLT]
              have ec : (i : Int) - 1 = (m : Int) - 1 - ((c + 1 : Nat) : Int) := by omega
              refine ⟨by omega, c + 1, by omega, by omega, ?_⟩
              refine Wkn.of [] [some 0] ?_
              simp (implicitDefEqProofs := false) (dsimp := false) only [hbs, ec, List.getD_cons_zero, List.set_cons_zero, List.set_cons_succ, Bool.and_self, Nat.reduceAdd, Nat.reduceSub, Nat.reduceMul, List.replicate, evK_go, reduceIte, Nat.reduceEqDiff, Nat.reduceLT, and_self, List.foldl_cons, List.foldl_nil, Int.cast_ofNat_Int, Int.natCast_add, slots, wkL_nil, wkL_cons, wkB_nil, wkR_nil, wkR_some, wkV_j, wkV_d, wkV_o, frz_d, oK_zs, reduceCtorEq]
            | false =>
              rw [hf, if_neg (by decide)] at hbs
              simp (implicitDefEqProofs := false) (dsimp := false) only [↓cdK_false, ↓aw_skip, ↓aw_reg, ↓Qseq_n, ↓Qblk_n, ↓ops_nil, ↓ops_cons, ↓eval_tmp, ↓eval_int, ↓put_some, ↓binE_i, ↓bi_sub, ↓in_i64, ↓op_move, ↓op_assign, ↓op_bin, List.getD_cons_zero, List.getD_cons_succ, List.set_cons_zero, List.set_cons_succ, Nat.reduceAdd, Nat.reduceSub, Nat.reduceMul, evK_go, reduceIte, Nat.reduceEqDiff, Nat.reduceLT]
              have ec : (i : Int) - 1 = (m : Int) - 1 - ((c + 1 : Nat) : Int) := by omega
              refine ⟨by omega, c + 1, by omega, by omega, ?_⟩
              refine Wkn.of [] [some 0] ?_
              simp (implicitDefEqProofs := false) (dsimp := false) only [hbs, ec, List.getD_cons_zero, List.set_cons_zero, List.set_cons_succ, Bool.and_self, Nat.reduceAdd, Nat.reduceSub, Nat.reduceMul, List.replicate, evK_go, reduceIte, Nat.reduceEqDiff, Nat.reduceLT, and_self, List.foldl_cons, List.foldl_nil, Int.cast_ofNat_Int, Int.natCast_add, slots, wkL_nil, wkL_cons, wkB_nil, wkR_nil, wkR_some, wkV_j, wkV_d, wkV_o, frz_d, oK_zs, reduceCtorEq]
      · obtain rfl : c = m := by omega
        rw [hbl]
        by_cases hp : pts (freeS (outS c L) left) = []
        · rw [if_pos hp] at hgo ⊢
          have hneg : decide ((-1 : Int) < 0) = true := by decide
          simp (implicitDefEqProofs := false) (dsimp := false) only [hneg, hgo, ↓cdK_true, ↓optK_some, ↓rwK_mk_, ↓aw_cond, ↓aw_seq, ↓aw_exit, ↓aw_ret, ↓aw_reg, ↓Qseq_n, ↓Qseq_x, ↓Qseq_r, ↓Qblk_r, ↓Qblk_x, ↓Qret_r, ↓ops_nil, ↓ops_cons, ↓eval_tmp, ↓eval_int, ↓eval_bool, ↓eval_nil, ↓put_some, ↓bK_b, ↓binE_i, ↓bi_lss, ↓op_move, ↓op_assign, ↓op_bin, ↓td_d, ↓td_nl, ↓td_o, ↓ret_2, ↓row_xs, ↓take_map, List.getD_cons_zero, List.getD_cons_succ, List.set_cons_zero, List.set_cons_succ, List.map_nil, Nat.reduceAdd, Nat.reduceSub, Nat.reduceMul, evK_go, reduceIte, Nat.reduceEqDiff, Nat.reduceLT, Option.getD_none, List.drop_zero]
          rfl
        · rw [if_neg hp] at hgo ⊢
          have hnx := hTI.next hn hg ((pts_mem _ _).1 (low_mem hp)).2
          have hneg : decide (((low (freeS (outS c L) left) : Nat) : Int) < 0) = false := decide_eq_false (by omega)
          simp (implicitDefEqProofs := false) (dsimp := false) only [hneg, ht, ↓cdK_false, ↓optK_some, ↓rwK_mk_, ↓aw_cond, ↓aw_seq, ↓aw_exit, ↓aw_ret, ↓aw_skip, ↓aw_reg, ↓Qseq_n, ↓Qseq_x, ↓Qblk_n, ↓Qblk_x, ↓Qret_r, ↓ops_nil, ↓ops_cons, ↓eval_tmp, ↓eval_int, ↓eval_bool, ↓put_some, ↓bK_b, ↓dK_d, ↓binE_i, ↓bi_lss, ↓op_move, ↓op_assign, ↓op_bin, ↓op_append, ↓allD_nil, ↓allD_cons, ↓td_d, ↓td_o, ↓ret_2, ↓app_mk, ↓row_sz, ↓row_xs, kill_d, kill_j, kill_o, ↓cells_c, ↓one_i, ↓ap_, ↓ap_o, ↓src_l, ↓bs_, ↓op_bs, ↓bsL_f, ↓stored_mk, ↓sl_nil, ↓sl_cons, ↓sT_move, ↓sT_assign, ↓sT_bs, ↓sT_call, ↓vsz_int, ↓inO_1, ↓fm_nil, ↓fm_cons, ↓ty3, ↓zb3, ↓sl24, List.getD_cons_zero, List.getD_cons_succ, List.set_cons_zero, List.set_cons_succ, List.map_cons, List.map_nil, List.length_cons, List.length_nil, List.length_map, List.all_cons, List.all_nil, Bool.true_and, Bool.and_self, Bool.or_false, Nat.reduceAdd, Nat.reduceSub, Nat.reduceMul, Nat.zero_add, evK_go, reduceIte, Nat.reduceEqDiff, Nat.reduceLT, and_self, true_and, Int.zero_add, List.drop_zero]
          have hll : (acc ++ [low (freeS (outS c L) left)]).length = acc.length + 1 := by simp
          refine ⟨by decide, ⟨fun _ => trivial, by omega, by omega⟩, ⟨_, acc ++ [low (freeS (outS c L) left)]⟩, ⟨by simp (implicitDefEqProofs := false) (dsimp := false) only [hll]; omega, hnx, by simp (implicitDefEqProofs := false) (dsimp := false) only [hll]; exact hgo⟩, by simp (implicitDefEqProofs := false) (dsimp := false) only [hll]; omega, ?_⟩
          refine Wkn.of [] [some 0] ?_
          simp (implicitDefEqProofs := false) (dsimp := false) only [hll, List.map_append, nD, List.getD_cons_zero, List.set_cons_zero, List.set_cons_succ, List.map_cons, List.map_nil, Bool.and_self, Nat.reduceAdd, Nat.reduceSub, Nat.reduceMul, List.replicate, evK_go, reduceIte, Nat.reduceEqDiff, Nat.reduceLT, and_self, List.foldl_cons, List.foldl_nil, slots, wkL_nil, wkL_cons, wkB_nil, wkR_nil, wkR_some, wkV_j, wkV_d, wkV_o, frz_d, oK_zs, reduceCtorEq]
/-- The most lines on a way to a point, by recursion. -/
theorem rdeep_spec (L : List (Nat × Nat)) (m : Nat) (d : List Nat) (hL : L.length < 2 ^ 62) (hg : Good m L) (hd : IsDeep L fun j => d.getD j default) (hb : ∀ i, i < m → d.getD i default < m) (h8 : m ≤ 8) :
    ∀ (q i : Nat), i < m → d.getD i default = q → FnD Tryd.prog 22 [.l (L.map lnN), I .i64 (i : Int)] (I .i64 (q : Int)) := by
  intro q
  induction q using Nat.strongRecOn with
  | _ q ih =>
  intro i hi hq
  refine FnD.go Tryd.func22 rfl rfl Tryd.results22 Tryd.ntmps22 ?_
  simp (implicitDefEqProofs := false) (dsimp := false) only [↓aw_seq, ↓aw_block, ↓aw_loop, ↓aw_reg, ↓Qseq_n, ↓ops_nil, ↓ops_cons, ↓eval_int, ↓put_some, ↓op_assign, List.set_cons_zero, List.set_cons_succ, List.cons_append, List.nil_append, List.map_cons, List.map_nil, List.length_cons, List.length_nil, Nat.reduceAdd, Nat.reduceSub, Nat.reduceMul, Nat.zero_add, List.replicate, evK_go, reduceIte, Nat.reduceEqDiff, Nat.reduceLT, Int.zero_add]
  refine loopW (fun x : Nat × Int => { tm := slots 34 [(0, .d (.l (L.map lnN))), (1, .d (I .i64 (i : Int))), (5, .d (I .i64 (x.2 + 1))), (6, .d (I .i64 x.1))], bx := [], rw := [] })
    (fun x => x.1 ≤ L.length ∧ MostK d (L.take x.1) i x.2) (fun x => L.length - x.1) (0, -1) ⟨by simp, ⟨by simp, .inl rfl⟩⟩ ?_ ?_
  · have e : (-1 : Int) + 1 = 0 := by decide
    refine Wkn.of [] [] ?_; simp (implicitDefEqProofs := false) (dsimp := false) only [e, List.set_cons_zero, List.set_cons_succ, Bool.and_self, Nat.reduceAdd, Nat.reduceSub, Nat.reduceMul, List.replicate, evK_go, reduceIte, Nat.reduceEqDiff, Nat.reduceLT, and_self, List.foldl_cons, List.foldl_nil, Int.cast_ofNat_Int, slots, wkL_nil, wkL_cons, wkB_nil, wkR_nil, wkV_j, wkV_d, frz_d, reduceCtorEq]
  · rintro ⟨k, z⟩ ⟨hk, hz⟩
    simp only at hk hz
    simp (implicitDefEqProofs := false) (dsimp := false) only [slots, ↓aw_cond, ↓aw_seq, ↓aw_reg, ↓Qseq_n, ↓ops_nil, ↓ops_cons, ↓eval_tmp, ↓put_some, ↓bK_b, ↓lenK_l, ↓binE_i, ↓bi_lss, ↓op_move, ↓op_bin, ↓op_len, ↓sl22, List.getD_cons_zero, List.getD_cons_succ, List.set_cons_zero, List.set_cons_succ, List.length_map, Nat.reduceAdd, Nat.reduceSub, Nat.reduceMul, List.replicate, evK_go, reduceIte, Nat.reduceEqDiff, Nat.reduceLT, List.foldl_cons, List.foldl_nil, Int.ofNat_lt]
    refine cdK_dec (fun h2 => ?_) (fun h2 => ?_)
    · have hkL : k < L.length := by omega
      have hmem := getD_mem hkL
      have hp := hg _ hmem
      have hnx := hz.next (L.getD k default)
      rw [← take_succ_getD hkL] at hnx
      generalize hab : L.getD k default = p at hp hnx hmem
      obtain ⟨a, b⟩ := p
      simp only at hp hnx
      have hzb : z < m := by
        rcases hz.2 with e | ⟨p, hp, _, e⟩
        · omega
        · rw [e]; exact_mod_cast hb _ (hg p (List.mem_of_mem_take hp)).1
      have hz1 : -1 ≤ z := by
        rcases hz.2 with e | ⟨p, hp, _, e⟩ <;> omega
      by_cases hbi : b = i
      · subst hbi
        have hda := hd.1 a b hmem
        simp only at hda
        have hc := CallH.eq0 (ih (d.getD a default) (by omega) a (by omega) rfl)
        have hx := hb a (by omega)
        simp (implicitDefEqProofs := false) (dsimp := false) only [hkL, hab, lnN, ↓cdK_true, ↓atK_H, ↓atH_map, ↓aw_cond, ↓aw_seq, ↓aw_block, ↓aw_skip, ↓aw_reg, ↓Qseq_n, ↓ops_nil, ↓ops_cons, ↓eval_tmp, ↓eval_func, ↓put_some, ↓bK_b, ↓iK_i, ↓binE_i, ↓bi_eql, ↓ldK_q, ↓faK_q, ↓iaK_l, ↓op_move, ↓op_load, ↓op_bin, ↓op_fa, ↓op_ia, ↓op_call, isD_d, ↓fnK_f, ↓call_H, ↓callK_H, ↓allT_nil, ↓allT_cons, ↓td_d, ↓cells_s, ↓hd_cons, ↓ty3, ↓sl22, ↓ty41, ↓fd41_0, ↓fd41_1, List.getD_cons_zero, List.getD_cons_succ, List.set_cons_zero, List.set_cons_succ, List.append_nil, List.length_cons, List.length_nil, List.all_cons, List.all_nil, Bool.true_and, Bool.and_self, Nat.reduceAdd, Nat.reduceSub, Nat.reduceMul, Nat.zero_add, Int.toNat_natCast, evK_go, reduceIte, decide_true, Nat.reduceEqDiff, Nat.reduceLT, and_self, true_and, Int.zero_add, List.drop_zero, List.drop_succ_cons, Int.natCast_nonneg]
        have e5 : (1 : Int) + ((d.getD a default : Nat) : Int) = ((d.getD a default : Nat) : Int) + 1 := by omega
        simp (implicitDefEqProofs := false) (dsimp := false) only [hc, e5, ↓aw_cond, ↓aw_seq, ↓aw_reg, ↓Qseq_n, ↓ops_nil, ↓ops_cons, ↓eval_tmp, ↓eval_int, ↓put_some, ↓bK_b, ↓binE_i, ↓bi_add, ↓bi_gtr, ↓in_i64, ↓op_move, ↓op_assign, ↓op_bin, List.getD_cons_zero, List.getD_cons_succ, List.set_cons_zero, List.set_cons_succ, Bool.true_and, Bool.true_or, Nat.reduceAdd, Nat.reduceSub, Nat.reduceMul, evK_go, reduceIte, Nat.reduceEqDiff, Nat.reduceLT, true_and]
        (repeat refine OrH.l ?_)
        refine ⟨by omega, cdK_dec (fun h3 => ?_) (fun h3 => ?_)⟩
        · rw [if_pos ⟨rfl, by omega⟩] at hnx
          simp (implicitDefEqProofs := false) (dsimp := false) only [↓aw_reg, ↓Qseq_n, ↓Qblk_n, ↓ops_nil, ↓ops_cons, ↓eval_tmp, ↓eval_int, ↓put_some, ↓binE_i, ↓bi_add, ↓in_i64, ↓op_move, ↓op_assign, ↓op_bin, List.getD_cons_zero, List.getD_cons_succ, List.set_cons_zero, List.set_cons_succ, Nat.reduceAdd, Nat.reduceSub, Nat.reduceMul, evK_go, reduceIte, Nat.reduceEqDiff, Nat.reduceLT]
          refine ⟨by omega, ⟨k + 1, _⟩, ⟨by omega, hnx⟩, by simp only; omega, ?_⟩
          refine Wkn.of [] [] ?_; simp (implicitDefEqProofs := false) (dsimp := false) only [List.set_cons_zero, List.set_cons_succ, Bool.and_self, Nat.reduceAdd, Nat.reduceSub, Nat.reduceMul, List.replicate, evK_go, reduceIte, Nat.reduceEqDiff, Nat.reduceLT, and_self, List.foldl_cons, List.foldl_nil, Int.cast_ofNat_Int, Int.natCast_add, slots, wkL_nil, wkL_cons, wkB_nil, wkR_nil, wkV_j, wkV_d, frz_d, reduceCtorEq]
        · rw [if_neg (fun e => h3 (by omega))] at hnx
          simp (implicitDefEqProofs := false) (dsimp := false) only [↓aw_skip, ↓aw_reg, ↓Qseq_n, ↓Qblk_n, ↓ops_nil, ↓ops_cons, ↓eval_tmp, ↓eval_int, ↓put_some, ↓binE_i, ↓bi_add, ↓in_i64, ↓op_move, ↓op_assign, ↓op_bin, List.getD_cons_zero, List.getD_cons_succ, List.set_cons_zero, List.set_cons_succ, Nat.reduceAdd, Nat.reduceSub, Nat.reduceMul, evK_go, reduceIte, Nat.reduceEqDiff, Nat.reduceLT]
          refine ⟨by omega, ⟨k + 1, z⟩, ⟨by omega, hnx⟩, by simp only; omega, ?_⟩
          refine Wkn.of [] [] ?_; simp (implicitDefEqProofs := false) (dsimp := false) only [List.set_cons_zero, List.set_cons_succ, Bool.and_self, Nat.reduceAdd, Nat.reduceSub, Nat.reduceMul, List.replicate, evK_go, reduceIte, Nat.reduceEqDiff, Nat.reduceLT, and_self, List.foldl_cons, List.foldl_nil, Int.cast_ofNat_Int, Int.natCast_add, slots, wkL_nil, wkL_cons, wkB_nil, wkR_nil, wkV_j, wkV_d, frz_d, reduceCtorEq]
      · have hbi' : decide (b = i) = false := decide_eq_false hbi
        rw [if_neg (fun e => hbi e.1)] at hnx
        simp (implicitDefEqProofs := false) (dsimp := false) only [hkL, hab, lnN, hbi', ↓cdK_false, ↓atK_H, ↓atH_map, ↓aw_cond, ↓aw_seq, ↓aw_block, ↓aw_skip, ↓aw_reg, ↓Qseq_n, ↓Qblk_n, ↓ops_nil, ↓ops_cons, ↓eval_tmp, ↓eval_int, ↓put_some, ↓bK_b, ↓iK_i, ↓binE_i, ↓bi_add, ↓bi_eql, ↓in_i64, ↓ldK_q, ↓faK_q, ↓iaK_l, ↓op_move, ↓op_assign, ↓op_load, ↓op_bin, ↓op_fa, ↓op_ia, ↓cells_s, ↓hd_cons, ↓ty3, ↓sl22, ↓ty41, ↓fd41_1, List.getD_cons_zero, List.getD_cons_succ, List.set_cons_zero, List.set_cons_succ, List.length_cons, List.length_nil, Bool.true_and, Nat.reduceAdd, Nat.reduceSub, Nat.reduceMul, Nat.zero_add, Int.toNat_natCast, evK_go, reduceIte, decide_true, Nat.reduceEqDiff, Nat.reduceLT, true_and, Int.zero_add, List.drop_zero, List.drop_succ_cons, Int.natCast_nonneg, Int.natCast_inj]
        refine ⟨by omega, ⟨k + 1, z⟩, ⟨by omega, hnx⟩, by simp only; omega, ?_⟩
        refine Wkn.of [] [] ?_; simp (implicitDefEqProofs := false) (dsimp := false) only [List.set_cons_zero, List.set_cons_succ, Bool.and_self, Nat.reduceAdd, Nat.reduceSub, Nat.reduceMul, List.replicate, evK_go, reduceIte, Nat.reduceEqDiff, Nat.reduceLT, and_self, List.foldl_cons, List.foldl_nil, Int.cast_ofNat_Int, Int.natCast_add, slots, wkL_nil, wkL_cons, wkB_nil, wkR_nil, wkV_j, wkV_d, frz_d, reduceCtorEq]
    · obtain rfl : k = L.length := by omega
      rw [List.take_length] at hz
      have hfin := hz.done hd
      have e : z + 1 = (q : Int) := by rw [← hq]; exact hfin.symm
      simp (implicitDefEqProofs := false) (dsimp := false) only [e, ↓aw_seq, ↓aw_exit, ↓aw_ret, ↓aw_reg, ↓Qseq_n, ↓Qseq_x, ↓Qblk_x, ↓Qret_r, ↓ops_nil, ↓ops_cons, ↓eval_tmp, ↓put_some, ↓op_move, ↓op_assign, ↓td_d, ↓ret_1, List.getD_cons_zero, List.getD_cons_succ, List.set_cons_zero, List.set_cons_succ, Nat.reduceAdd, Nat.reduceSub, Nat.reduceMul, evK_go, reduceIte, decide_false, Nat.reduceEqDiff, Nat.reduceLT, Nat.lt_irrefl]
theorem rordI_spec (n : Int) (l : List (Int × Int)) (hpre : chk n l = 0 ∧ l.length < 2 ^ 62) : FnD Tryd.prog 21 [I .i64 n, .l (l.map lnD)] (.t [.l ((topoL n l).map nD), Bo (decide (topoE n l = 0))]) := by
  obtain ⟨hc, hl⟩ := hpre
  have ok := chk_ok hc
  have h8 := ok.hi
  have h1 := ok.lo
  have h := rord_spec n.toNat (natL l) ⟨⟨by omega, by omega⟩, by rw [natL_len]; exact hl, ok.good⟩
  have e1 : topoE n l = if (topoO n.toNat (natL l)).isSome then 0 else 5 := if_pos hc
  have e2 : topoL n l = (topoO n.toNat (natL l)).getD [] := if_pos hc
  rw [← lnD_nat ok.rng, ← ok.n0, ← e2] at h
  have e3 : decide (topoE n l = 0) = (topoO n.toNat (natL l)).isSome := by rw [e1]; cases topoO n.toNat (natL l) <;> rfl
  rw [e3]
  exact h
theorem rordI_call (n : Int) (l : List (Int × Int)) (pure : Bool) (σ : St) (dst : Option Tmp) (K : St → Prop) : CallH Tryd.prog 21 [I .i64 n, .l (l.map lnD)] pure σ dst (.mk : Hid K) = OrH ((chk n l = 0 ∧ l.length < 2 ^ 62) ∧ (pure || D.flat (.t [.l ((topoL n l).map nD), Bo (decide (topoE n l = 0))])) = true ∧ evK (σ.put dst (.d (.t [.l ((topoL n l).map nD), Bo (decide (topoE n l = 0))]))) (.mk : Hid K)) (.mk : Hid (CallH Tryd.prog 21 [I .i64 n, .l (l.map lnD)] pure σ dst (.mk : Hid K))) := CallH.eq (rordI_spec n l) pure σ dst K
theorem deepR_ok {n : Int} {l : List (Int × Int)} (h : topoE n l = 0) : (deepR n l).length = n.toNat ∧ (IsDeep (natL l) fun j => (deepR n l).getD j default) ∧ ∀ i, i < n.toNat → (deepR n l).getD i default < n.toNat := by
  obtain ⟨hc0, o, ho⟩ := topoE_zero h
  have ok := chk_ok hc0
  have hcr := ok.cr
  have e1 : deepR n l = deepS n.toNat (natL l) o := by
    unfold deepR topoL
    rw [if_pos h, if_pos hc0, ho]; rfl
  rw [e1]
  obtain ⟨hdl, hd⟩ := deep_spec hcr.1 hcr.2.2 (topo_some hcr.1 hcr.2.2 ho)
  exact ⟨hdl, hd, fun b hb => deep_lt (d := fun j => (deepS n.toNat (natL l) o).getD j default) hcr.2.2 (topo_some hcr.1 hcr.2.2 ho) hd hb⟩
theorem rdeepI_spec (n : Int) (l : List (Int × Int)) (i : Nat) (hpre : (topoE n l = 0 ∧ i < n.toNat) ∧ l.length < 2 ^ 62) : FnD Tryd.prog 22 [.l (l.map lnD), I .i64 (i : Int)] (I .i64 ((deepR n l).getD i default : Nat)) := by
  obtain ⟨⟨h, hi⟩, hl⟩ := hpre
  obtain ⟨h1, h2, h3⟩ := deepR_ok h
  obtain ⟨hc0, _⟩ := topoE_zero h
  have ok := chk_ok hc0
  have h8 := ok.hi
  have := rdeep_spec (natL l) n.toNat (deepR n l) (by rw [natL_len]; exact hl) ok.good h2 h3 (by omega) _ i hi rfl
  rw [← lnD_nat ok.rng] at this
  exact this
theorem rdeepI_call (n : Int) (l : List (Int × Int)) (i : Nat) (pure : Bool) (σ : St) (dst : Option Tmp) (K : St → Prop) : CallH Tryd.prog 22 [.l (l.map lnD), I .i64 (i : Int)] pure σ dst (.mk : Hid K) = OrH (((topoE n l = 0 ∧ i < n.toNat) ∧ l.length < 2 ^ 62) ∧ (pure || D.flat (I .i64 ((deepR n l).getD i default : Nat))) = true ∧ evK (σ.put dst (.d (I .i64 ((deepR n l).getD i default : Nat)))) (.mk : Hid K)) (.mk : Hid (CallH Tryd.prog 22 [.l (l.map lnD), I .i64 (i : Int)] pure σ dst (.mk : Hid K))) := CallH.eq (rdeepI_spec n l i) pure σ dst K
end Go.Proofs

namespace Go.Proofs
open Go.Aw
set_option linter.unusedSimpArgs false
set_option maxRecDepth 10000
end Go.Proofs

namespace Go.Proofs
open Go.Aw
set_option linter.unusedSimpArgs false
set_option maxRecDepth 10000
def firstE {α : Type} (f : α → Int) : List α → Int
  | [] => 0
  | x :: l => if f x = 0 then firstE f l else f x
def rowE (n : Nat) (x : List Int) : Int := if x.length ≠ n then 3 else if (x.all fun y => inB y 0 ((n : Int) - 1)) = false then 1 else if x.Nodup then 0 else 6
def stE (L R : List (List Int)) : Int := if 6 < L.length ∨ 6 < R.length then 4 else if L.length ≠ R.length then 3 else if firstE (rowE L.length) L = 0 then firstE (rowE L.length) R else firstE (rowE L.length) L
end Go.Proofs

namespace Go.Proofs
open Go.Aw
set_option linter.unusedSimpArgs false
set_option maxRecDepth 10000
def lnR (x : List Nat) : D := .l (x.map nD)
def toN (L : List (List Int)) : List (List Nat) := L.map fun x => x.map Int.toNat
structure StOk (L R : List (List Int)) (n : Nat) (A B : List (List Nat)) : Prop where
  hi : n ≤ 6
  lenL : L.length = n
  lenR : R.length = n
  dL : L.map liD = A.map lnR
  dR : R.map liD = B.map lnR
  pL : Prefs n A
  pR : Prefs n B
def isE (L R : List (List Int)) (h : List Int) : Int := if stE L R = 0 then rowE L.length h else stE L R
def stbI (A B : List (List Nat)) (H : List Nat) (i : Nat) : Bool := ((A.getD i default).take ((A.getD i default).idxOf (H.getD i default))).all fun b => !decide ((B.getD b default).idxOf i < (B.getD b default).idxOf (H.idxOf b))
def stbL (A B : List (List Nat)) (H : List Nat) : Bool := (List.range H.length).all (stbI A B H)
def isB (L R : List (List Int)) (h : List Int) : Bool := if isE L R h = 0 then stbL (toN L) (toN R) (h.map Int.toNat) else false
end Go.Proofs

namespace Go.Proofs
open Go.Aw
set_option linter.unusedSimpArgs false
set_option maxRecDepth 10000
def tvA : Nat → V → V
  | 0, _ => .j
  | _, x => x
def tvB : Nat → V → V
  | 0, _ => .j
  | 1, _ => .j
  | _, x => x
def tvC : Nat → V → V
  | 3, x => x
  | _, _ => .j
def rv : Nat → Nat → List D
  | 2, n => List.replicate n (I .i64 0)
  | _, _ => []
def S3 (A B : List (List Nat)) (n c1 c2 c3 t : Nat) : St := { tm := slots 109 [(0, .d (.l (A.map lnR))), (1, .d (.l (B.map lnR))), (7, .d (I .i64 (n : Int))), (8, tvA t (.o 0 0 n)), (9, tvB t (.o 1 0 n)), (10, tvC t (.o 2 0 n)), (26, tvA c1 (.d (I .i64 (n : Int)))), (27, tvB c1 (.o 0 0 n)), (28, tvA c2 (.d (I .i64 (n : Int)))), (29, tvB c2 (.o 1 0 n)), (30, tvA c3 (.d (I .i64 (n : Int)))), (31, tvB c3 (.o 2 0 n))], bx := [], rw := [some ⟨1, rv c1 n⟩, some ⟨1, rv c2 n⟩, some ⟨1, rv c3 n⟩] }
section
variable (p : List Nat) (rw : List (Option Row)) (c o l : Nat)
end
end Go.Proofs

namespace Go.Proofs
open Go.Aw
set_option linter.unusedSimpArgs false
set_option maxRecDepth 10000
def oD (m : Nat) (L : List (Nat × Nat)) (f : Nat) (P : List Nat) : List Nat := (List.range m).map fun i => if i ∈ P then ovS m L f i else 0
def ovP (m : Nat) (L : List (Nat × Nat)) (f c k : Nat) : Nat := addAll 0 ((List.range k).filter (ovC m L f c))
/-- What is wrong with lines and a point. -/
def domE (n : Int) (l : List (Int × Int)) (f : Int) : Int := if chk n l = 0 then (if inB f 0 (n - 1) then 0 else 1) else chk n l
def domOf (n : Int) (l : List (Int × Int)) (f : Int) : List (List Int) := if domE n l f = 0 then (ovL n.toNat (natL l) f.toNat).map ptsI else []
def domLast (n : Int) (l : List (Int × Int)) (f : Int) : List Int := if domE n l f = 0 then lastL n.toNat (ovL n.toNat (natL l) f.toNat) else []
end Go.Proofs

namespace Go.Proofs
open Go.Aw
set_option linter.unusedSimpArgs false
set_option maxRecDepth 10000
def lastB (m : Nat) (W : List Nat) (k : Nat) : List Int := (List.range m).map fun i => if i < k then lastI W i else 0
end Go.Proofs

namespace Go.Proofs
open Go.Aw
set_option linter.unusedSimpArgs false
set_option maxRecDepth 10000
end Go.Proofs

namespace Go.Proofs
open Go.Aw
set_option linter.unusedSimpArgs false
set_option maxRecDepth 10000
def rootR (n : Int) (l : List (Int × Int)) : List Nat := if chk n l = 0 then (List.range n.toNat).map (rootP n.toNat (natL l)) else []
def farR (n : Int) (l : List (Int × Int)) (f : Int) : List Int := if chk n l = 0 then (if inB f 0 (n - 1) = true then farL n.toNat (natL l) f.toNat else []) else []
def farE (n : Int) (l : List (Int × Int)) (f : Int) : Int := if chk n l = 0 then (if inB f 0 (n - 1) = true then 0 else 1) else chk n l
def negK (n k : Nat) : List Int := List.replicate k (-1) ++ List.replicate (n - k) 0
structure FI where
  q : Nat
  pre : List Nat
  st : BS
end Go.Proofs

namespace Go.Proofs
open Go.Aw
set_option linter.unusedSimpArgs false
set_option maxRecDepth 10000
set_option maxHeartbeats 2000000
structure PI where
  m : Nat
  pre : List Nat
  g : GS
def outK (has : List Int) (n k : Nat) : List Nat := (List.range k).foldl (fun o j => o.set (has.getD j default).toNat j) (List.replicate n 0)
def pairsR (L R : List (List Int)) : List Nat := if stE L R = 0 then gale L.length (toN L) (toN R) else []
end Go.Proofs

namespace Go.Proofs
open Go.Aw Go.ChangeShapes Go.WideShapes Go.ChangeAt Go.RowKit Go.Deep
set_option linter.unusedVariables false
set_option maxRecDepth 100000
section
variable {H : Type} {enc : TypeId × Value → H} {W : World} {held : Bool}
end
end Go.Proofs

namespace Go.Proofs
open Go.Aw
set_option linter.unusedSimpArgs false
set_option maxRecDepth 10000
def sgL : List (List Int) := [[0, 1], [0, 1]]
def sgR : List (List Int) := [[1, 0], [0, 1]]
end Go.Proofs

namespace Go.Proofs
open Go.Aw
set_option linter.unusedSimpArgs false
set_option maxRecDepth 10000
theorem rbehind_spec (s : List Nat) (j : Nat) (hpre : s.length < 2 ^ 40) : FnR Tryd.prog 94 [.l (s.map nD), I .i64 (j : Int)] 1 ((s ++ [j]).map nD) := by
  refine FnR.go Tryd.func94 rfl rfl Tryd.results94 Tryd.ntmps94 ?_
  simp (implicitDefEqProofs := false) (dsimp := false) only [↓optK_some, ↓rwK_mk_, ↓aw_seq, ↓aw_ret, ↓aw_reg, ↓Qseq_n, ↓ops_nil, ↓ops_cons, ↓eval_tmp, ↓eval_nil, ↓put_some, ↓dK_d, ↓op_move, ↓op_assign, ↓op_append, ↓allD_nil, ↓allD_cons, ↓addRow_mk, ↓app_mk, ↓st_rw, ↓row_sz, ↓row_xs, kill_d, kill_j, kill_nl, kill_o, ↓cells_c, ↓one_i, ↓ap_, ↓ap_nl, ↓ap_o, ↓src_l, ↓bs_, ↓op_bs, ↓bsL_f, ↓stored_mk, ↓sl_nil, ↓sl_cons, ↓sT_move, ↓sT_assign, ↓sT_bs, ↓sT_call, ↓vsz_int, ↓inO_1, ↓fm_nil, ↓fm_cons, ↓Qrow_r, ↓rowK_o, ↓ty3, ↓zb3, ↓sl24, List.getD_cons_zero, List.getD_cons_succ, List.set_cons_zero, List.set_cons_succ, List.cons_append, List.nil_append, List.map_cons, List.map_nil, List.length_cons, List.length_nil, List.length_map, List.all_cons, List.all_nil, Bool.true_and, Bool.and_self, Bool.or_false, Nat.reduceAdd, Nat.reduceSub, Nat.reduceMul, Nat.zero_add, List.replicate, evK_go, reduceIte, Nat.reduceEqDiff, Nat.reduceLT, and_self, true_and, Int.zero_add, List.drop_zero]
  refine ⟨fun y hy => ?_, ⟨by omega, by omega⟩, by decide, ⟨fun _ => trivial, by omega, by omega⟩, ?_⟩
  · obtain ⟨z, _, rfl⟩ := List.mem_map.1 hy
    exact ⟨rfl, rfl⟩
  · rw [List.take_of_length_le (by simp)]
    simp [nD]
theorem rbehind_callD (s : List Nat) (j : Nat) (pure : Bool) (σ : St) (dst : Option Tmp) (K : St → Prop) : CallH Tryd.prog 94 [.l (s.map nD), I .i64 (j : Int)] pure σ dst (.mk : Hid K) = OrH ((s.length < 2 ^ 40) ∧ (pure || D.flat (.l ((s ++ [j]).map nD))) = true ∧ evK (σ.put dst (.d (.l ((s ++ [j]).map nD)))) (.mk : Hid K)) (.mk : Hid (CallH Tryd.prog 94 [.l (s.map nD), I .i64 (j : Int)] pure σ dst (.mk : Hid K))) := CallH.eq (fun h => ((fun h => rbehind_spec s j h) h).data) pure σ dst K
theorem rbehind_callDQ (s : List Nat) (j : Nat) (pure : Bool) (C : V → Prop) : CallQ Tryd.prog 94 [.l (s.map nD), I .i64 (j : Int)] pure (.mk : Hid C) = OrH ((s.length < 2 ^ 40) ∧ (pure || D.flat (.l ((s ++ [j]).map nD))) = true ∧ evK (V.d (.l ((s ++ [j]).map nD))) (.mk : Hid C)) (.mk : Hid (CallQ Tryd.prog 94 [.l (s.map nD), I .i64 (j : Int)] pure (.mk : Hid C))) := CallQ.eq (fun h => ((fun h => rbehind_spec s j h) h).data) pure C
end Go.Proofs

namespace Go.Proofs
open Go.Aw
set_option linter.unusedSimpArgs false
set_option maxRecDepth 10000
theorem rset_spec (s : List Nat) (i j : Nat) (hpre : s.length < 2 ^ 40 ∧ i < s.length) : FnR Tryd.prog 100 [.l (s.map nD), I .i64 (i : Int), I .i64 (j : Int)] 1 ((s.set i j).map nD) := by
  refine FnR.go Tryd.func100 rfl rfl Tryd.results100 Tryd.ntmps100 ?_
  simp (implicitDefEqProofs := false) (dsimp := false) only [↓optK_some, ↓rwK_mk_, ↓aw_seq, ↓aw_ret, ↓aw_reg, ↓Qseq_n, ↓ops_nil, ↓ops_cons, ↓eval_tmp, ↓eval_nil, ↓put_some, ↓put_none, ↓iK_i, ↓dK_d, ↓iaK_o, ↓op_move, ↓op_assign, ↓op_ia, ↓op_append, ↓op_store, ↓addRow_mk, ↓setRow_mk, ↓app_mk, ↓st_rw, ↓row_sz, ↓row_xs, kill_d, kill_j, kill_nl, ↓cells_c, ↓one_i, ↓st_e, ↓ap_, ↓ap_nl, ↓src_l, ↓vsz_int, ↓Qrow_r, ↓rowK_o, ↓ty3, ↓zb3, ↓sl24, List.getD_cons_zero, List.getD_cons_succ, List.set_cons_zero, List.set_cons_succ, List.cons_append, List.nil_append, List.map_cons, List.map_nil, List.length_cons, List.length_nil, List.length_map, List.all_cons, List.all_nil, Bool.true_and, Bool.and_self, Nat.reduceAdd, Nat.reduceSub, Nat.reduceMul, Nat.zero_add, Int.toNat_natCast, List.replicate, evK_go, reduceIte, Nat.reduceEqDiff, Nat.reduceLT, and_self, true_and, Int.zero_add, Int.ofNat_lt, Int.natCast_nonneg]
  refine ⟨fun y hy => ?_, ⟨by omega, by omega⟩, hpre.2, ?_⟩
  · obtain ⟨z, _, rfl⟩ := List.mem_map.1 hy
    exact ⟨rfl, rfl⟩
  · rw [List.take_of_length_le (by simp), List.map_set]; rfl
theorem rset_callDQ (s : List Nat) (i j : Nat) (pure : Bool) (C : V → Prop) : CallQ Tryd.prog 100 [.l (s.map nD), I .i64 (i : Int), I .i64 (j : Int)] pure (.mk : Hid C) = OrH ((s.length < 2 ^ 40 ∧ i < s.length) ∧ (pure || D.flat (.l ((s.set i j).map nD))) = true ∧ evK (V.d (.l ((s.set i j).map nD))) (.mk : Hid C)) (.mk : Hid (CallQ Tryd.prog 100 [.l (s.map nD), I .i64 (i : Int), I .i64 (j : Int)] pure (.mk : Hid C))) := CallQ.eq (fun h => ((fun h => rset_spec s i j h) h).data) pure C
end Go.Proofs

namespace Go.Proofs
open Go.Aw
set_option linter.unusedSimpArgs false
set_option maxRecDepth 10000
set_option maxHeartbeats 1000000
end Go.Proofs

namespace Go.Proofs
open Go.Aw
set_option linter.unusedSimpArgs false
set_option maxRecDepth 10000
set_option maxHeartbeats 2000000
theorem goes_nat {n : Int} {l : List (Int × Int)} (ok : Ok n l) (i j : Nat) : (((i : Int), (j : Int)) ∈ l ↔ (i, j) ∈ natL l) := by
  unfold natL
  rw [List.mem_map]
  constructor
  · intro h; exact ⟨_, h, rfl⟩
  · rintro ⟨⟨a, b⟩, h1, h2⟩
    have := ok.rng _ h1
    simp (implicitDefEqProofs := false) (dsimp := false) only [natP, Prod.mk.injEq] at h2 this
    have e1 : a = (i : Int) := by omega
    have e2 : b = (j : Int) := by omega
    rw [← e1, ← e2]; exact h1
end Go.Proofs

namespace Go.Proofs
open Go.Aw
set_option linter.unusedSimpArgs false
set_option maxRecDepth 10000
set_option maxHeartbeats 2000000
theorem closed_spec (n : Nat) (l : List (Int × Int)) (hpre : n ≤ 40 ∧ l.length < 2 ^ 62) : FnD Tryd.prog 50 [I .i64 (n : Int), .l (l.map lnD)] (.l ((closR (comR n l) n n).map lnN)) := by
  obtain ⟨hn, hl⟩ := hpre
  have hfp : n ≤ 40 ∧ l.length < 2 ^ 62 := ⟨hn, hl⟩
  have hlr : (List.range n).length = n := List.length_range
  have hcr : ∀ a b, comR n l a b = (List.range n).any fun k => decide (((a : Int), (k : Int)) ∈ l) && decide (0 ≤ ffR n l false (-1) k b) := fun _ _ => rfl
  refine FnD.go Tryd.func50 rfl rfl Tryd.results50 Tryd.ntmps50 ?_
  simp (implicitDefEqProofs := false) (dsimp := false) only [↓aw_seq, ↓aw_reg, ↓Qseq_n, ↓ops_nil, ↓ops_cons, ↓eval_tmp, ↓eval_int, ↓eval_bool, ↓eval_nil, ↓eval_func, ↓put_some, ↓op_move, ↓op_assign, ↓op_call, isD_d, ↓fnK_f, ↓call_H, ↓callK_H, ↓allT_nil, ↓allT_cons, ↓td_d, List.getD_cons_zero, List.getD_cons_succ, List.set_cons_zero, List.set_cons_succ, List.cons_append, List.nil_append, List.append_nil, List.map_cons, List.map_nil, List.length_cons, List.length_nil, List.all_cons, List.all_nil, Bool.and_self, Nat.reduceAdd, Nat.reduceSub, Nat.reduceMul, Nat.zero_add, List.replicate, evK_go, reduceIte, Nat.reduceEqDiff, Nat.reduceLT, and_self, Int.zero_add]
  simp (implicitDefEqProofs := false) (dsimp := false) only [rfar_call, hfp, ↓aw_seq, ↓aw_block, ↓aw_loop, ↓aw_reg, ↓Qseq_n, ↓ops_nil, ↓ops_cons, ↓eval_tmp, ↓eval_int, ↓eval_nil, ↓put_some, ↓op_assign, List.getD_cons_zero, List.getD_cons_succ, List.set_cons_zero, List.set_cons_succ, Bool.true_and, Bool.and_self, Bool.true_or, Nat.reduceAdd, Nat.reduceSub, Nat.reduceMul, evK_go, reduceIte, Nat.reduceEqDiff, Nat.reduceLT, and_self, true_and]
  (repeat refine OrH.l ?_)
  generalize comR n l = C at *
  generalize ffR n l false (-1) = F at *
  refine loopW (fun a : Nat => { tm := slots 54 [(0, .d (I .i64 (n : Int))), (1, .d (.l (l.map lnD))), (5, .d (.l ((List.range n).map fun a => .l (ffRow n (F a))))), (6, .o 0 0 (closR C n a).length), (7, .d (I .i64 a))], bx := [], rw := [some ⟨2, (closR C n a).map lnN⟩] })
    (fun a => a ≤ n) (fun a => n - a) 0 (by simp) ?_ ?_
  · refine Wkn.of [] [none] ?_
    simp (implicitDefEqProofs := false) (dsimp := false) only [closR_zero, List.map_nil, List.length_nil, ffRow, ↓row_xs, List.set_cons_zero, List.set_cons_succ, List.map_nil, List.length_nil, Bool.and_self, Nat.reduceAdd, Nat.reduceSub, Nat.reduceMul, List.replicate, evK_go, reduceIte, Nat.reduceEqDiff, Nat.reduceLT, and_self, List.foldl_cons, List.foldl_nil, Int.cast_ofNat_Int, slots, wkL_nil, wkL_cons, wkB_nil, wkR_nil, wkR_new, wkV_j, wkV_d, nlK_nl, wkV_o, frz_d, oK_zn, reduceCtorEq]
  · intro a ha
    have hRl := closR_len C n a
    have hRb : a * n ≤ 40 * 40 := Nat.mul_le_mul (by omega) hn
    simp (implicitDefEqProofs := false) (dsimp := false) only [slots, ↓aw_cond, ↓aw_seq, ↓aw_reg, ↓Qseq_n, ↓ops_nil, ↓ops_cons, ↓eval_tmp, ↓put_some, ↓bK_b, ↓binE_i, ↓bi_lss, ↓op_move, ↓op_bin, List.getD_cons_zero, List.getD_cons_succ, List.set_cons_zero, List.set_cons_succ, Nat.reduceAdd, Nat.reduceSub, Nat.reduceMul, List.replicate, evK_go, reduceIte, Nat.reduceEqDiff, Nat.reduceLT, List.foldl_cons, List.foldl_nil, Int.ofNat_lt]
    refine cdK_dec (fun h => ?_) (fun h => ?_)
    rotate_left
    · obtain rfl : a = n := by omega
      simp (implicitDefEqProofs := false) (dsimp := false) only [↓optK_some, ↓rwK_mk_, ↓aw_seq, ↓aw_exit, ↓aw_ret, ↓aw_reg, ↓Qseq_n, ↓Qseq_x, ↓Qblk_x, ↓Qret_r, ↓ops_nil, ↓ops_cons, ↓eval_tmp, ↓put_some, ↓op_move, ↓op_assign, ↓td_o, ↓ret_1, ↓row_xs, ↓take_map, List.getD_cons_zero, List.getD_cons_succ, List.set_cons_zero, List.set_cons_succ, Nat.reduceAdd, Nat.reduceSub, Nat.reduceMul, evK_go, reduceIte, decide_false, Nat.reduceEqDiff, Nat.reduceLT, Nat.lt_irrefl, List.drop_zero]
    have han : a < n := by omega
    simp (implicitDefEqProofs := false) (dsimp := false) only [↓aw_seq, ↓aw_block, ↓aw_skip, ↓aw_loop, ↓aw_reg, ↓Qseq_n, ↓ops_nil, ↓ops_cons, ↓eval_int, ↓put_some, ↓op_assign, List.set_cons_zero, List.set_cons_succ, Nat.reduceAdd, Nat.reduceSub, Nat.reduceMul, evK_go, reduceIte, Nat.reduceEqDiff, Nat.reduceLT]
    refine loopW (fun b : Nat => { tm := slots 54 [(0, .d (I .i64 (n : Int))), (1, .d (.l (l.map lnD))), (5, .d (.l ((List.range n).map fun a => .l (ffRow n (F a))))), (6, .o 0 0 (closR C n a ++ closC C a b).length), (7, .d (I .i64 a)), (8, .d (I .i64 b))], bx := [], rw := [some ⟨2, (closR C n a ++ closC C a b).map lnN⟩] })
      (fun b => b ≤ n) (fun b => n - b) 0 (by simp) ?_ ?_
    · refine Wkn.of [] [some 0] ?_
      simp (implicitDefEqProofs := false) (dsimp := false) only [closC_zero, List.append_nil, ffRow, List.getD_cons_zero, List.set_cons_zero, List.set_cons_succ, List.append_nil, Bool.and_self, Nat.reduceAdd, Nat.reduceSub, Nat.reduceMul, List.replicate, evK_go, reduceIte, Nat.reduceEqDiff, Nat.reduceLT, and_self, List.foldl_cons, List.foldl_nil, Int.cast_ofNat_Int, slots, wkL_nil, wkL_cons, wkB_nil, wkR_nil, wkR_some, wkV_j, wkV_d, wkV_o, frz_d, oK_zs, reduceCtorEq]
    · intro b hb
      have hCl := closC_len C a b
      have hlen : (closR C n a ++ closC C a b).length ≤ 2000 := by rw [List.length_append]; omega
      simp (implicitDefEqProofs := false) (dsimp := false) only [slots, ↓aw_cond, ↓aw_seq, ↓aw_reg, ↓Qseq_n, ↓ops_nil, ↓ops_cons, ↓eval_tmp, ↓put_some, ↓bK_b, ↓binE_i, ↓bi_lss, ↓op_move, ↓op_bin, List.getD_cons_zero, List.getD_cons_succ, List.set_cons_zero, List.set_cons_succ, Nat.reduceAdd, Nat.reduceSub, Nat.reduceMul, List.replicate, evK_go, reduceIte, Nat.reduceEqDiff, Nat.reduceLT, List.foldl_cons, List.foldl_nil, Int.ofNat_lt]
      refine cdK_dec (fun h => ?_) (fun h => ?_)
      rotate_left
      · obtain rfl : b = n := by omega
        simp (implicitDefEqProofs := false) (dsimp := false) only [↓optK_some, ↓rwK_mk_, ↓aw_seq, ↓aw_exit, ↓aw_ret, ↓aw_reg, ↓Qseq_n, ↓Qseq_x, ↓Qblk_n, ↓Qblk_x, ↓Qret_r, ↓ops_nil, ↓ops_cons, ↓eval_tmp, ↓eval_int, ↓put_some, ↓binE_i, ↓bi_add, ↓in_i64, ↓op_move, ↓op_assign, ↓op_bin, ↓td_o, ↓ret_1, ↓row_xs, ↓take_map, List.getD_cons_zero, List.getD_cons_succ, List.set_cons_zero, List.set_cons_succ, Nat.reduceAdd, Nat.reduceSub, Nat.reduceMul, evK_go, reduceIte, decide_false, Nat.reduceEqDiff, Nat.reduceLT, Nat.lt_irrefl, List.drop_zero]
        refine ⟨by omega, a + 1, by omega, by omega, ?_⟩
        refine Wkn.of [] [some 0] ?_
        simp (implicitDefEqProofs := false) (dsimp := false) only [closR_succ, ffRow, List.getD_cons_zero, List.set_cons_zero, List.set_cons_succ, Bool.and_self, Nat.reduceAdd, Nat.reduceSub, Nat.reduceMul, List.replicate, evK_go, reduceIte, Nat.reduceEqDiff, Nat.reduceLT, and_self, List.foldl_cons, List.foldl_nil, Int.cast_ofNat_Int, Int.natCast_add, slots, wkL_nil, wkL_cons, wkB_nil, wkR_nil, wkR_some, wkV_j, wkV_d, wkV_o, frz_d, oK_zs, reduceCtorEq]
      have hbn : b < n := by omega
      have hrb := rng_getD hbn
      simp (implicitDefEqProofs := false) (dsimp := false) only [↓aw_seq, ↓aw_block, ↓aw_skip, ↓aw_loop, ↓aw_reg, ↓Qseq_n, ↓ops_nil, ↓ops_cons, ↓eval_int, ↓eval_bool, ↓put_some, ↓op_assign, List.set_cons_zero, List.set_cons_succ, Nat.reduceAdd, Nat.reduceSub, Nat.reduceMul, evK_go, reduceIte, Nat.reduceEqDiff, Nat.reduceLT]
      refine loopW (fun k : Nat => { tm := slots 54 [(0, .d (I .i64 (n : Int))), (1, .d (.l (l.map lnD))), (5, .d (.l ((List.range n).map fun a => .l (ffRow n (F a))))), (6, .o 0 0 (closR C n a ++ closC C a b).length), (7, .d (I .i64 a)), (8, .d (I .i64 b)), (9, .d (Bo ((List.range k).any fun k => decide (((a : Int), (k : Int)) ∈ l) && decide (0 ≤ F k b)))), (10, .d (I .i64 k))], bx := [], rw := [some ⟨2, (closR C n a ++ closC C a b).map lnN⟩] })
        (fun k => k ≤ n) (fun k => n - k) 0 (by simp) ?_ ?_
      · refine Wkn.of [] [some 0] ?_
        simp (implicitDefEqProofs := false) (dsimp := false) only [List.range_zero, List.any_nil, ffRow, List.getD_cons_zero, List.set_cons_zero, List.set_cons_succ, Bool.and_self, Nat.reduceAdd, Nat.reduceSub, Nat.reduceMul, List.replicate, evK_go, reduceIte, Nat.reduceEqDiff, Nat.reduceLT, and_self, List.foldl_cons, List.foldl_nil, Int.cast_ofNat_Int, slots, wkL_nil, wkL_cons, wkB_nil, wkR_nil, wkR_some, wkV_j, wkV_d, wkV_o, frz_d, oK_zs, reduceCtorEq]
      · intro k hk
        have hs : ((List.range (k + 1)).any fun k => decide (((a : Int), (k : Int)) ∈ l) && decide (0 ≤ F k b)) = (((List.range k).any fun k => decide (((a : Int), (k : Int)) ∈ l) && decide (0 ≤ F k b)) || (decide (((a : Int), (k : Int)) ∈ l) && decide (0 ≤ F k b))) := by
          rw [List.range_succ, List.any_append]; simp
        have hend : k = n → ((List.range k).any fun k => decide (((a : Int), (k : Int)) ∈ l) && decide (0 ≤ F k b)) = C a b := fun e => by rw [hcr a b, e]
        generalize ((List.range k).any fun k => decide (((a : Int), (k : Int)) ∈ l) && decide (0 ≤ F k b)) = t at hs hend ⊢
        simp (implicitDefEqProofs := false) (dsimp := false) only [slots, ↓aw_cond, ↓aw_seq, ↓aw_reg, ↓Qseq_n, ↓ops_nil, ↓ops_cons, ↓eval_tmp, ↓put_some, ↓bK_b, ↓binE_i, ↓bi_lss, ↓op_move, ↓op_bin, List.getD_cons_zero, List.getD_cons_succ, List.set_cons_zero, List.set_cons_succ, Nat.reduceAdd, Nat.reduceSub, Nat.reduceMul, List.replicate, evK_go, reduceIte, Nat.reduceEqDiff, Nat.reduceLT, List.foldl_cons, List.foldl_nil, Int.ofNat_lt]
        refine cdK_dec (fun h => ?_) (fun h => ?_)
        · have hkn : k < n := by omega
          have hrk := rng_getD hkn
          cases t with
          | true =>
            rw [Bool.true_or] at hs
            simp (implicitDefEqProofs := false) (dsimp := false) only [↓cdK_true, ↓gdK_junk, ↓gdK_f, ↓gval_mk, ↓gvL_zero, ↓gvL_succ, ↓aw_seq, ↓aw_block, ↓aw_skip, ↓aw_reg, ↓Qseq_n, ↓Qblk_n, ↓ops_nil, ↓ops_cons, ↓ops_guard, ↓eval_tmp, ↓eval_int, ↓eval_bool, ↓put_some, ↓bK_b, ↓binE_i, ↓bi_add, ↓in_i64, ↓op_move, ↓op_assign, ↓op_pick, ↓op_bin, ↓st_tm, List.getD_cons_zero, List.getD_cons_succ, List.set_cons_zero, List.set_cons_succ, Nat.reduceAdd, Nat.reduceSub, Nat.reduceMul, evK_go, reduceIte, Nat.reduceEqDiff, Nat.reduceLT]
            refine ⟨by omega, k + 1, by omega, by omega, ?_⟩
            refine Wkn.of [] [some 0] ?_
            simp (implicitDefEqProofs := false) (dsimp := false) only [hs, ffRow, List.getD_cons_zero, List.set_cons_zero, List.set_cons_succ, Bool.and_self, Nat.reduceAdd, Nat.reduceSub, Nat.reduceMul, List.replicate, evK_go, reduceIte, Nat.reduceEqDiff, Nat.reduceLT, and_self, List.foldl_cons, List.foldl_nil, Int.cast_ofNat_Int, Int.natCast_add, slots, wkL_nil, wkL_cons, wkB_nil, wkR_nil, wkR_some, wkV_j, wkV_d, wkV_o, frz_d, oK_zs, reduceCtorEq]
          | false =>
            rw [Bool.false_or] at hs
            simp (implicitDefEqProofs := false) (dsimp := false) only [goes_call, hl, ↓cdK_false, ↓gdK_t, ↓gdK_f, ↓gval_mk, ↓gvL_zero, ↓gvL_succ, ↓aw_seq, ↓aw_block, ↓aw_skip, ↓aw_reg, ↓Qseq_n, ↓ops_cons, ↓ops_guard, ↓eval_tmp, ↓eval_func, ↓put_some, ↓op_move, ↓op_call, isD_d, ↓fnK_f, ↓call_H, ↓callK_H, ↓allT_nil, ↓allT_cons, ↓td_d, ↓st_tm, List.getD_cons_zero, List.getD_cons_succ, List.set_cons_zero, List.set_cons_succ, List.append_nil, List.all_cons, List.all_nil, Bool.true_and, Bool.and_self, Bool.true_or, Nat.reduceAdd, Nat.reduceSub, Nat.reduceMul, evK_go, reduceIte, Nat.reduceEqDiff, Nat.reduceLT, and_self, true_and]
            (repeat refine OrH.l ?_)
            cases hg : decide (((a : Int), (k : Int)) ∈ l) with
            | false =>
              rw [hg, Bool.false_and] at hs
              simp (implicitDefEqProofs := false) (dsimp := false) only [↓cdK_false, ↓gdK_t, ↓gdK_f, ↓gval_mk, ↓gvL_zero, ↓gvL_succ, ↓aw_reg, ↓Qseq_n, ↓Qblk_n, ↓ops_nil, ↓ops_cons, ↓ops_guard, ↓eval_tmp, ↓eval_int, ↓eval_bool, ↓put_some, ↓bK_b, ↓binE_i, ↓bi_add, ↓in_i64, ↓op_move, ↓op_assign, ↓op_pick, ↓op_bin, ↓st_tm, List.getD_cons_zero, List.getD_cons_succ, List.set_cons_zero, List.set_cons_succ, Nat.reduceAdd, Nat.reduceSub, Nat.reduceMul, evK_go, reduceIte, Nat.reduceEqDiff, Nat.reduceLT]
              refine ⟨by omega, k + 1, by omega, by omega, ?_⟩
              refine Wkn.of [] [some 0] ?_
              simp (implicitDefEqProofs := false) (dsimp := false) only [hs, ffRow, List.getD_cons_zero, List.set_cons_zero, List.set_cons_succ, Bool.and_self, Nat.reduceAdd, Nat.reduceSub, Nat.reduceMul, List.replicate, evK_go, reduceIte, Nat.reduceEqDiff, Nat.reduceLT, and_self, List.foldl_cons, List.foldl_nil, Int.cast_ofNat_Int, Int.natCast_add, slots, wkL_nil, wkL_cons, wkB_nil, wkR_nil, wkR_some, wkV_j, wkV_d, wkV_o, frz_d, oK_zs, reduceCtorEq]
            | true =>
              rw [hg, Bool.true_and] at hs
              simp (implicitDefEqProofs := false) (dsimp := false) only [hkn, hbn, hlr, hrk, hrb, ffRow, ↓cdK_true, ↓cdK_false, ↓gdK_t, ↓gdK_f, ↓gval_mk, ↓gvL_zero, ↓gvL_succ, ↓atK_H, ↓atH_map, ↓aw_reg, ↓Qseq_n, ↓Qblk_n, ↓ops_nil, ↓ops_cons, ↓ops_guard, ↓eval_tmp, ↓eval_int, ↓put_some, ↓bK_b, ↓iK_i, ↓binE_i, ↓bi_add, ↓bi_geq, ↓in_i64, ↓ldK_q, ↓iaK_l, ↓op_move, ↓op_assign, ↓op_pick, ↓op_load, ↓op_bin, ↓op_ia, ↓st_tm, ↓cells_c, ↓cells_l, ↓hd_cons, ↓ty3, ↓ty24, ↓sl24, ↓sl69, List.getD_cons_zero, List.getD_cons_succ, List.set_cons_zero, List.set_cons_succ, List.length_cons, List.length_nil, Bool.true_and, Nat.reduceAdd, Nat.reduceSub, Nat.reduceMul, Nat.zero_add, Int.toNat_natCast, evK_go, reduceIte, decide_true, Nat.reduceEqDiff, Nat.reduceLT, true_and, Int.zero_add, Int.natCast_nonneg]
              refine ⟨by omega, k + 1, by omega, by omega, ?_⟩
              refine Wkn.of [] [some 0] ?_
              simp (implicitDefEqProofs := false) (dsimp := false) only [hs, List.getD_cons_zero, List.set_cons_zero, List.set_cons_succ, Bool.and_self, Nat.reduceAdd, Nat.reduceSub, Nat.reduceMul, List.replicate, evK_go, reduceIte, Nat.reduceEqDiff, Nat.reduceLT, and_self, List.foldl_cons, List.foldl_nil, Int.cast_ofNat_Int, Int.natCast_add, slots, wkL_nil, wkL_cons, wkB_nil, wkR_nil, wkR_some, wkV_j, wkV_d, wkV_o, frz_d, oK_zs, reduceCtorEq]
        · have hC := hend (by omega)
          have hsC := closC_succ C a b
          rw [hC]
          cases hc : C a b with
          | true =>
            rw [hc, if_pos rfl] at hsC
            simp (implicitDefEqProofs := false) (dsimp := false) only [↓cdK_true, ↓optK_some, ↓rwK_mk_, ↓aw_cond, ↓aw_seq, ↓aw_exit, ↓aw_ret, ↓aw_reg, ↓Qseq_n, ↓Qseq_x, ↓Qblk_n, ↓Qblk_x, ↓Qret_r, ↓ops_nil, ↓ops_cons, ↓eval_tmp, ↓eval_int, ↓put_some, ↓bK_b, ↓dK_d, ↓binE_i, ↓bi_add, ↓in_i64, ↓op_move, ↓op_assign, ↓op_bin, ↓op_build, ↓op_append, ↓allD_nil, ↓allD_cons, ↓td_o, ↓ret_1, ↓app_mk, ↓row_sz, ↓row_xs, kill_d, kill_j, kill_o, ↓cells_c, ↓cells_s, ↓one_i, ↓ap_, ↓ap_o, ↓src_l, ↓bs_, ↓op_bs, ↓bsL_f, ↓stored_mk, ↓sl_nil, ↓sl_cons, ↓sT_move, ↓sT_assign, ↓sT_build, ↓sT_bs, ↓sT_call, ↓vsz_agg, ↓inO_1, ↓fm_nil, ↓fm_cons, ↓take_map, ↓sl22, ↓ty41, ↓zb41, ↓bd41, List.getD_cons_zero, List.getD_cons_succ, List.set_cons_zero, List.set_cons_succ, List.cons_append, List.nil_append, List.map_cons, List.map_nil, List.length_cons, List.length_nil, List.length_map, List.all_cons, List.all_nil, Bool.true_and, Bool.and_self, Bool.or_false, Nat.reduceAdd, Nat.reduceSub, Nat.reduceMul, Nat.zero_add, evK_go, reduceIte, Nat.reduceEqDiff, Nat.reduceLT, and_self, true_and, Int.zero_add, List.drop_zero]
            refine ⟨⟨rfl, by decide⟩, rfl, ⟨fun _ => trivial, by omega, by omega⟩, by omega, b + 1, by omega, by omega, ?_⟩
            refine Wkn.of [] [some 0] ?_
            simp (implicitDefEqProofs := false) (dsimp := false) only [hsC, List.map_append, List.map_cons, List.map_nil, List.length_append, List.length_cons, List.length_nil, List.append_assoc, Nat.add_assoc, lnN, ffRow, List.getD_cons_zero, List.set_cons_zero, List.set_cons_succ, List.map_cons, List.map_nil, List.length_cons, List.length_nil, Bool.and_self, Nat.reduceAdd, Nat.reduceSub, Nat.reduceMul, Nat.zero_add, List.replicate, evK_go, reduceIte, Nat.reduceEqDiff, Nat.reduceLT, and_self, Int.zero_add, List.foldl_cons, List.foldl_nil, Int.cast_ofNat_Int, Int.natCast_add, slots, wkL_nil, wkL_cons, wkB_nil, wkR_nil, wkR_some, wkV_j, wkV_d, wkV_o, frz_d, oK_zs, reduceCtorEq]
          | false =>
            rw [hc, if_neg (by decide), List.append_nil] at hsC
            simp (implicitDefEqProofs := false) (dsimp := false) only [↓cdK_false, ↓optK_some, ↓rwK_mk_, ↓aw_cond, ↓aw_seq, ↓aw_exit, ↓aw_ret, ↓aw_skip, ↓aw_reg, ↓Qseq_n, ↓Qseq_x, ↓Qblk_n, ↓Qblk_x, ↓Qret_r, ↓ops_nil, ↓ops_cons, ↓eval_tmp, ↓eval_int, ↓put_some, ↓bK_b, ↓binE_i, ↓bi_add, ↓in_i64, ↓op_move, ↓op_assign, ↓op_bin, ↓td_o, ↓ret_1, ↓row_xs, ↓take_map, List.getD_cons_zero, List.getD_cons_succ, List.set_cons_zero, List.set_cons_succ, Nat.reduceAdd, Nat.reduceSub, Nat.reduceMul, evK_go, reduceIte, Nat.reduceEqDiff, Nat.reduceLT, List.drop_zero]
            refine ⟨by omega, b + 1, by omega, by omega, ?_⟩
            refine Wkn.of [] [some 0] ?_
            simp (implicitDefEqProofs := false) (dsimp := false) only [hsC, ffRow, List.getD_cons_zero, List.set_cons_zero, List.set_cons_succ, Bool.and_self, Nat.reduceAdd, Nat.reduceSub, Nat.reduceMul, List.replicate, evK_go, reduceIte, Nat.reduceEqDiff, Nat.reduceLT, and_self, List.foldl_cons, List.foldl_nil, Int.cast_ofNat_Int, Int.natCast_add, slots, wkL_nil, wkL_cons, wkB_nil, wkR_nil, wkR_some, wkV_j, wkV_d, wkV_o, frz_d, oK_zs, reduceCtorEq]
theorem closed_call (n : Nat) (l : List (Int × Int)) (pure : Bool) (σ : St) (dst : Option Tmp) (K : St → Prop) : CallH Tryd.prog 50 [I .i64 (n : Int), .l (l.map lnD)] pure σ dst (.mk : Hid K) = OrH ((n ≤ 40 ∧ l.length < 2 ^ 62) ∧ (pure || D.flat (.l ((closR (comR n l) n n).map lnN))) = true ∧ evK (σ.put dst (.d (.l ((closR (comR n l) n n).map lnN)))) (.mk : Hid K)) (.mk : Hid (CallH Tryd.prog 50 [I .i64 (n : Int), .l (l.map lnD)] pure σ dst (.mk : Hid K))) := CallH.eq (closed_spec n l) pure σ dst K
end Go.Proofs

namespace Go.Proofs
open Go.Aw
set_option linter.unusedSimpArgs false
set_option maxRecDepth 10000
set_option maxHeartbeats 2000000
end Go.Proofs

namespace Go.Proofs
open Go.Aw
set_option linter.unusedSimpArgs false
set_option maxRecDepth 10000
set_option maxHeartbeats 2000000
end Go.Proofs

namespace Go.Proofs
open Go.Aw
set_option linter.unusedSimpArgs false
set_option maxRecDepth 10000
set_option maxHeartbeats 2000000
def rowC (C : Nat → Nat → Bool) (a b : Nat) : List Nat := (List.range b).filter (C a)
def allC (C : Nat → Nat → Bool) (n a : Nat) : List (List Int) := (List.range a).map fun x => (rowC C x n).map Int.ofNat
end Go.Proofs

namespace Go.Proofs
open Go.Aw
set_option linter.unusedSimpArgs false
set_option maxRecDepth 10000
set_option maxHeartbeats 4000000
end Go.Proofs

namespace Go.Proofs
open Go.Aw
set_option linter.unusedSimpArgs false
set_option maxRecDepth 10000
def halfR (n : Int) (l : List (Int × Int)) : List Int := if chk n l = 0 then (if halfOk n.toNat (natL l) = true then halfL n.toNat (natL l) else []) else []
def halfE (n : Int) (l : List (Int × Int)) : Int := if chk n l = 0 then (if halfOk n.toNat (natL l) = true then 0 else 5) else chk n l
def mixF {α : Type} (f g : Nat → α) (n q : Nat) : List α := (List.range n).map fun j => if j < q then f j else g j
end Go.Proofs

namespace Go.Proofs
open Go.Aw
set_option linter.unusedSimpArgs false
set_option maxRecDepth 10000
def oddR (n : Int) (l : List (Int × Int)) : Nat := if chk n l = 0 then oddN n.toNat (outS n.toNat (symL (natL l))) else 0
def odK (S : List Nat) (a b : Nat) : Nat → Nat
  | 0 => b
  | k + 1 => oddK S a (odK S a b k) (k + 1)
def odA (S : List Nat) (n : Nat) : Nat → Nat
  | 0 => 0
  | a + 1 => odK S a (odA S n a) n
end Go.Proofs

namespace Go.Proofs
open Go.Aw
set_option linter.unusedSimpArgs false
set_option maxRecDepth 10000
set_option maxHeartbeats 2000000
def besR (l : List (Int × Int)) (a b : Nat) : Bool := decide (((a : Int), (b : Int)) ∈ l) || decide (((b : Int), (a : Int)) ∈ l)
end Go.Proofs

namespace Go.Proofs
open Go.Aw
set_option linter.unusedSimpArgs false
set_option maxRecDepth 10000
theorem ty112 (k : Bool → Nat → Prop) : tyK Tryd.prog 112 k = k false 1 := tyK_eq (by kernel_rfl) k
theorem zb112 (k : Value → Nat → Prop) : zbK Tryd.prog 112 k = k .nilFunc 8 := zbK_eq (by kernel_rfl) k
/-- The boxes that it works on. -/
def tB (next : List Nat) (right sn : Nat) (rest : List V) : List V := .d (.l (next.map U)) :: .o 0 0 right :: .d (U sn) :: .fp (.func 115) [0, 2, 1, 3] :: rest
def tR (has : List Int) (restR : List (Option Row)) : List (Option Row) := some ⟨1, has.map (I .i64)⟩ :: restR
theorem end0 {α : Type} (rest : List α) (x : α) (ys : List α) (d : α) : (rest ++ x :: ys).getD rest.length d = x := by simp [List.getD_eq_getElem?_getD]
theorem end1 {α : Type} (rest : List α) (x y : α) (ys : List α) (d : α) : (rest ++ x :: y :: ys).getD (rest.length + 1) d = y := by simp [List.getD_eq_getElem?_getD, List.getElem?_append_right]
theorem endS1 {α : Type} (rest : List α) (x y z : α) (ys : List α) : (rest ++ x :: y :: ys).set (rest.length + 1) z = rest ++ x :: z :: ys := by simp [List.set_append]
theorem cells_fp (fn : Fn) (ps : List Nat) : (V.fp fn ps).cells = [.fp fn ps] := rfl
theorem ret_of {σ : St} {a b : Nat} {v : Value} {R : D → Prop} (h1 : σ.tm.getD a .j = .p b 0) (h2 : σ.bx.getD b .j = .d (.c v)) (h : R (.c v)) : retD Tryd.prog σ [.cell a 4] R := by
  show rvK Tryd.prog σ (.cell a 4) R
  unfold rvK
  simp (implicitDefEqProofs := false) (dsimp := false) only [h1, ty4, h2]
  exact nthK_mk (y := .d (.c v)) rfl (show tdK σ (.d (.c v)) R from h)
theorem try_spec {left right : Nat} {l : List (Nat × Nat)} (hr : right ≤ 8) (hl8 : left ≤ 8) (hg : ∀ i j, j ∈ pts ((outS (max left 1) l).getD i default) ↔ (i, j) ∈ l) (hlt : ∀ x ∈ outS (max left 1) l, x < 2 ^ 64) (hsd : Sides left right l) :
    ∀ (m i : Nat) (s : KS) (rest : List V) (restR : List (Option Row)) (gh : List V), i < left → HasOK right left l s.has → s.has.length = right → s.seen < 2 ^ 64 → unseen right s.seen < m → (∀ x ∈ rest, ∀ y ∈ x.cells, y.below (rest.length + 4)) →
    FnM Tryd.prog 115 [.d (I .i64 (i : Int)), .p 0 0, .p 2 0, .p 1 0, .p 3 0] (tB (outS (max left 1) l) right s.seen rest) (tR s.has restR) gh (fun d bx' rw' gh' => gh' = gh ∧ d = Bo (tryF (outS (max left 1) l) m i s).1 ∧
      bx' = tB (outS (max left 1) l) right (tryF (outS (max left 1) l) m i s).2.seen rest ∧ rw' = tR (tryF (outS (max left 1) l) m i s).2.has restR) := by
  intro m
  induction m with
  | zero => intro i s rest restR gh _ _ _ _ h; omega
  | succ m ih =>
    intro i s rest restR gh hi hok hlen hseen hun hrest
    have hol := outS_len (max left 1) l
    obtain ⟨next, hnext⟩ : ∃ next, next = outS (max left 1) l := ⟨_, rfl⟩
    have hts := fun (m i : Nat) (s : KS) h1 h2 => tryF_spec hsd (by omega) hg m i s h1 h2
    rw [← hnext] at hg hlt hol ih hts ⊢
    have hin : i < next.length := by omega
    have hnl := hlt _ (getD_mem hin)
    obtain ⟨res, hres⟩ : ∃ res, res = tryF next (m + 1) i s := ⟨_, rfl⟩
    rw [← hres]
    refine FnM.shrink (Kf' := fun d bx' rw' gh' => gh' = gh ∧ d = Bo res.1 ∧ (∃ a b, bx' = tB next right res.2.seen (rest ++ [a, b])) ∧ rw' = tR res.2.has restR) (FnM.go Tryd.func115 rfl rfl Tryd.results115 Tryd.ntmps115 ?_) ?_
    rotate_left
    · rintro d bx' rw' gh' ⟨rfl, rfl, ⟨a, b, rfl⟩, rfl⟩
      refine ⟨rfl, tB next right res.2.seen rest, [a, b], by simp [tB], by simp [tB], ?_, rfl, rfl, rfl, rfl⟩
      intro x hx y hy
      have hL : (tB next right res.2.seen rest).length = rest.length + 4 := by simp [tB]
      rw [hL]
      simp (implicitDefEqProofs := false) (dsimp := false) only [tB, List.mem_cons] at hx
      rcases hx with rfl | rfl | rfl | rfl | hx
      · simp [V.cells] at hy; subst hy; trivial
      · simp [V.cells] at hy; subst hy; trivial
      · have : y = .d (U res.2.seen) := by simpa [V.cells, U] using hy
        subst this; trivial
      · simp [V.cells] at hy; subst hy
        intro b hb
        simp at hb; omega
      · exact hrest x hx y hy
    · simp (implicitDefEqProofs := false) (dsimp := false) only [tB, tR, hin, each_call, List.append_assoc, List.length_append, end0, ↓atK_H, ↓atH_map, ↓nthK_H, ↓nthH_zero, ↓aw_seq, ↓aw_block, ↓aw_rng, ↓aw_reg, ↓Qseq_n, ↓ops_nil, ↓ops_cons, ↓eval_tmp, ↓eval_func, ↓put_some, ↓iK_i, ↓ldK_q, ↓ldK_p, ↓iaK_l, ↓op_load, ↓op_ia, ↓op_call, ↓op_alloc, ↓op_box, isD_d, ↓fnK_f, ↓call_H, ↓callK_H, ↓allT_nil, ↓allT_cons, ↓td_d, ↓addBox_mk, ↓st_bx, ↓cells_c, ↓vcells_c, ↓vcells_l, ↓one_i, ↓vone_d, constV_b, ↓hd_cons, ↓ty3, ↓zb4, ↓ty99, ↓sl99, ↓ty102, List.getD_cons_zero, List.getD_cons_succ, List.set_cons_zero, List.set_cons_succ, List.cons_append, List.nil_append, List.append_nil, List.length_cons, List.length_nil, List.all_cons, List.all_nil, Bool.true_and, Bool.and_self, Bool.true_or, Nat.reduceAdd, Nat.reduceSub, Nat.reduceMul, Nat.zero_add, Int.toNat_natCast, List.replicate, evK_go, reduceIte, Nat.reduceEqDiff, Nat.reduceLT, and_self, true_and, Int.zero_add, Int.natCast_nonneg]
      (repeat refine OrH.l ?_)
      refine rangeG (slots 37 [(1, .p 0 0), (2, .p 2 0), (3, .p 1 0), (4, .p 3 0), (5, .p (rest.length + 1 + 1 + 1 + 1) 0), (6, .p (rest.length + 1 + 1 + 1 + 1 + 1) 0), (12, .d (.f (.func 111) [.q [U (next.getD i default)]]))]) gh
        (fun st : KS => .d (.l (next.map U)) :: .o 0 0 right :: .d (U st.seen) :: .fp (.func 115) [0, 2, 1, 3] :: (rest ++ [.d (I .i64 (i : Int)), .d (Bo false)])) (fun st => some ⟨1, st.has.map (I .i64)⟩ :: restR)
        (fun ys st => ∃ P : List Nat, ys = P.map Int.ofNat ∧ (∀ rs, P ++ rs = pts (next.getD i default) → res = tryL (tryF next m) i rs st) ∧ HasOK right left l st.has ∧ st.has.length = right ∧ st.seen < 2 ^ 64 ∧ unseen right st.seen < m + 1) s
        (each_iter _ hnl) ?_ ⟨[], rfl, fun rs h => by rw [hres]; show tryL _ i (pts (next.getD i default)) s = _; rw [← h]; rfl, hok, hlen, hseen, hun⟩ ?_ ?_ ?_
      · simp (implicitDefEqProofs := false) (dsimp := false) only [slots, ↓eval_tmp, List.getD_cons_zero, List.getD_cons_succ, List.set_cons_zero, List.set_cons_succ, Nat.reduceAdd, Nat.reduceSub, Nat.reduceMul, List.replicate, evK_go, reduceIte, Nat.reduceEqDiff, Nat.reduceLT, List.foldl_cons, List.foldl_nil]
      · refine TmLe.wkn ?_
        simp (implicitDefEqProofs := false) (dsimp := false) only [slots, tmLe_nil, tmLe_j, tmLe_s, List.set_cons_zero, List.set_cons_succ, Nat.reduceAdd, Nat.reduceSub, Nat.reduceMul, List.replicate, evK_go, reduceIte, Nat.reduceEqDiff, Nat.reduceLT, List.foldl_cons, List.foldl_nil]
      · rintro ys x st hpx ⟨P, rfl, hrs, hok', hlen', hseen', hun'⟩
        obtain ⟨P', c, hP, rfl, hcc⟩ := prefix_map hpx
        obtain rfl : P = P' := ofNat_inj hP
        have hcm := hcc.subset (by simp : c ∈ P ++ [c])
        have hcr : c < right := (hsd _ ((hg i c).1 hcm)).2
        have hch : c < st.has.length := by omega
        obtain ⟨rs, hrs0⟩ := hcc
        have hthis := hrs (c :: rs) (by rw [← hrs0]; simp)
        have hnext' : ∀ st' : KS, res = tryL (tryF next m) i rs st' → ∀ rs', P ++ [c] ++ rs' = pts (next.getD i default) → res = tryL (tryF next m) i rs' st' := fun st' h rs' h' => by
          have : rs' = rs := List.append_cancel_left (h'.trans hrs0.symm)
          rw [this]; exact h
        have hc64 : c < 64 := by omega
        have hc64' : c ≤ 64 := by omega
        obtain ⟨has, seen⟩ := st
        simp only at hok' hlen' hseen' hun' hch
        simp (implicitDefEqProofs := false) (dsimp := false) only [slots, hasS_call, hseen', hc64', List.getD_cons_succ, ↓nthK_H, ↓nthH_zero, ↓aw_cond, ↓aw_seq, ↓aw_block, ↓aw_reg, ↓Qseq_n, ↓ops_nil, ↓ops_cons, ↓eval_tmp, ↓eval_func, ↓put_some, ↓bK_b, ↓ldK_p, ↓op_move, ↓op_assign, ↓op_load, ↓op_call, isD_d, ↓fnK_f, ↓call_H, ↓callK_H, ↓allT_nil, ↓allT_cons, ↓td_d, ↓vcells_c, ↓Qn_n, ↓ty102, List.getD_cons_zero, List.getD_cons_succ, List.set_cons_zero, List.set_cons_succ, List.cons_append, List.nil_append, List.append_nil, List.all_cons, List.all_nil, Bool.true_and, Bool.and_self, Bool.true_or, Nat.reduceAdd, Nat.reduceSub, Nat.reduceMul, List.replicate, evK_go, reduceIte, Nat.reduceEqDiff, Nat.reduceLT, and_self, true_and, List.foldl_cons, List.foldl_nil]
        refine OrH.l (OrH.l (cdK_split (fun hb => ?_) (fun hb => ?_)))
        · simp (implicitDefEqProofs := false) (dsimp := false) only [QB_n, QB_x, backN_mk, ↓aw_seq, ↓aw_exit, ↓aw_ret, ↓aw_reg, ↓Qseq_n, ↓Qseq_x, ↓Qblk_x, ↓ops_nil, ↓ops_cons, ↓eval_tmp, ↓eval_bool, ↓put_none, ↓op_store, Nat.reduceAdd, Nat.reduceSub, Nat.reduceMul, evK_go, reduceIte, Nat.reduceEqDiff, Nat.reduceLT]
          refine ⟨⟨has, seen⟩, ⟨P ++ [c], by simp, hnext' _ (by rw [hthis]; show (if _ then _ else _) = _; rw [if_pos hb]), hok', hlen', hseen', hun'⟩, ?_⟩
          exact Wkn.refl _
        · have hor : seen ||| 2 ^ c < 2 ^ 64 := Nat.or_lt_two_pow hseen' (Nat.pow_lt_pow_right (by omega) hc64)
          rcases Int.lt_or_le (has.getD c default) 0 with hneg | hpos
          · have hd : decide (has.getD c default < 0) = true := decide_eq_true hneg
            simp (implicitDefEqProofs := false) (dsimp := false) only [with_call, hseen', hc64, hlen', hcr, hd, end0, end1, endS1, QB_r, QM_r, backN_mk, ↓cdK_true, ↓gdK_f, ↓gval_mk, ↓gvL_zero, ↓gvL_succ, ↓optK_some, ↓rwK_mk_, ↓atK_H, ↓atH_map, ↓nthK_H, ↓nthH_zero, ↓aw_cond, ↓aw_seq, ↓aw_ret, ↓aw_skip, ↓aw_reg, ↓aw_draw, ↓Qseq_n, ↓Qseq_r, ↓Qblk_r, ↓ops_nil, ↓ops_cons, ↓eval_tmp, ↓eval_int, ↓eval_bool, ↓eval_func, ↓put_some, ↓put_none, ↓bK_b, ↓iK_i, ↓dK_d, ↓ev_move, ↓ev_pick, ↓ev_load, ↓ev_bin, ↓ev_ia, ↓binE_i, ↓bi_lss, ↓ldK_p, ↓ldK_e, ↓iaK_o, ↓op_move, ↓op_load, ↓op_ia, ↓op_call, ↓op_store, isD_d, ↓fnK_f, ↓call_H, ↓callK_H, ↓allT_nil, ↓allT_cons, ↓td_d, ↓draw_H, ↓h_nil, ↓h_cons, ↓ldH_n, ↓ldH_g, ↓q_move, ↓q_pick, ↓q_load, ↓q_bin, ↓q_ia, ↓il_move, ↓il_pick, ↓il_load, ↓il_bin, ↓il_ia, ↓il_call, ↓setBox_mk, ↓setRow_mk, ↓st_tm, ↓st_bx, ↓st_rw, ↓st_gh, ↓row_sz, ↓row_xs, ↓cells_c, ↓vcells_c, ↓vcells_o, ↓one_i, ↓one_b, ↓vone_d, ↓st_p, ↓st_e, ↓ty3, ↓ty4, ↓ty24, ↓sl24, ↓ty102, List.getD_cons_zero, List.getD_cons_succ, List.set_cons_zero, List.set_cons_succ, List.append_nil, List.length_cons, List.length_nil, List.all_cons, List.all_nil, Bool.true_and, Bool.and_self, Bool.true_or, Nat.reduceAdd, Nat.reduceSub, Nat.reduceMul, Nat.zero_add, Int.toNat_natCast, evK_go, reduceIte, Nat.reduceEqDiff, Nat.reduceLT, and_self, true_and, Int.zero_add, Int.ofNat_lt, Int.natCast_nonneg]
            (repeat refine OrH.l ?_)
            refine ⟨DrawH.of follows_mixed (by kernel_rfl), ?_⟩
            have hval : res = (true, ⟨has.set c (i : Int), seen ||| 2 ^ c⟩) := by
              rw [hthis]
              show (if _ then _ else (if _ then _ else _)) = _
              rw [if_neg (by rw [hb]; decide), if_pos hneg]
            refine ret_of rfl (end1 _ _ _ _ _) ⟨rfl, ?_, ⟨.d (I .i64 (i : Int)), .d (Bo true), ?_⟩, ?_⟩
            · rw [hval]; try rfl
            · rw [hval]; try rfl
            · rw [hval]
              simp (implicitDefEqProofs := false) (dsimp := false) only [tR, List.map_set]
          · obtain ⟨x, hx2, hx1, hx3⟩ := hok'.nat hcr (by omega)
            have hd : decide (has.getD c default < 0) = false := by rw [decide_eq_false_iff_not]; omega
            simp (implicitDefEqProofs := false) (dsimp := false) only [with_call, hseen', hc64, hlen', hcr, hd, ty112, ↓cdK_false, ↓gdK_f, ↓gval_mk, ↓gvL_zero, ↓gvL_succ, ↓optK_some, ↓rwK_mk_, ↓atK_H, ↓atH_map, ↓nthK_H, ↓nthH_zero, ↓aw_seq, ↓aw_skip, ↓aw_reg, ↓aw_draw, ↓Qseq_n, ↓ops_nil, ↓ops_cons, ↓eval_tmp, ↓eval_int, ↓eval_func, ↓put_some, ↓put_none, ↓iK_i, ↓ev_move, ↓ev_load, ↓ev_bin, ↓ev_ia, ↓binE_i, ↓bi_lss, ↓ldK_p, ↓ldK_e, ↓iaK_o, ↓op_move, ↓op_load, ↓op_call, ↓op_store, isD_d, ↓fnK_f, ↓call_H, ↓callK_H, ↓callKQ_H, ↓allT_nil, ↓allT_cons, ↓td_d, ↓draw_H, ↓h_cons, ↓ldH_n, ↓ldH_g, ↓q_call, ↓q_move, ↓q_load, ↓q_bin, ↓q_ia, ↓il_move, ↓il_load, ↓il_bin, ↓il_ia, ↓il_call, ↓setBox_mk, ↓st_tm, ↓st_bx, ↓row_sz, ↓row_xs, ↓cells_c, ↓vcells_c, ↓vcells_o, ↓one_i, ↓vone_d, ↓st_p, ↓ty3, ↓ty24, ↓sl24, ↓ty102, List.getD_cons_zero, List.getD_cons_succ, List.set_cons_zero, List.set_cons_succ, List.cons_append, List.nil_append, List.append_nil, List.length_cons, List.length_nil, List.all_cons, List.all_nil, Bool.true_and, Bool.and_self, Bool.true_or, Nat.reduceAdd, Nat.reduceSub, Nat.reduceMul, Nat.zero_add, Int.toNat_natCast, evK_go, reduceIte, Nat.reduceEqDiff, Nat.reduceLT, and_self, true_and, Int.zero_add, List.drop_zero, Int.ofNat_lt, Int.natCast_nonneg]
            refine OrH.l (OrH.l (OrH.r (draw_n 11 follows_mixed (by kernel_rfl) ?_)))
            simp (implicitDefEqProofs := false) (dsimp := false) only [hn_n, hn_g, hn_z, cells_fp, hcr, hlen', hd, ty112, ↓cdK_false, ↓gdK_f, ↓gval_mk, ↓gvL_zero, ↓gvL_succ, ↓optK_some, ↓rwK_mk_, ↓atK_H, ↓atH_map, ↓nthK_H, ↓nthH_zero, ↓ops_guard, ↓eval_tmp, ↓eval_int, ↓put_some, ↓iK_i, ↓ev_move, ↓ev_load, ↓ev_bin, ↓ev_ia, ↓binE_i, ↓bi_lss, ↓ldK_p, ↓ldK_e, ↓iaK_o, ↓op_call, isD_d, isD_fp, ↓fnK_f, ↓call_H, ↓callK_H, ↓allT_nil, ↓allT_cons, ↓td_d, ↓boxK_d, ↓td_fp, ↓bq_nil, ↓bq_cons, ↓q_move, ↓q_load, ↓q_bin, ↓q_ia, ↓st_tm, ↓row_sz, ↓row_xs, ↓cells_c, ↓cells_l, ↓vcells_o, ↓ty3, ↓ty24, ↓sl24, List.getD_cons_zero, List.getD_cons_succ, List.set_cons_zero, List.set_cons_succ, List.cons_append, List.nil_append, List.all_cons, List.all_nil, Bool.and_true, Bool.true_and, Bool.and_self, Nat.reduceAdd, Nat.reduceSub, Nat.reduceMul, Nat.zero_add, Int.toNat_natCast, evK_go, reduceIte, Nat.reduceEqDiff, Nat.reduceLT, and_self, true_and, and_true, Int.zero_add, List.drop_zero, Int.ofNat_lt, Int.natCast_nonneg]
            have hb' : seen.testBit c = false := hb
            have hunl : unseen right (seen ||| 2 ^ c) < m := by have := unseen_lt hcr hb'; omega
            have hrest' : ∀ y ∈ rest ++ [V.d (I .i64 (i : Int)), .d (Bo false)], ∀ z ∈ y.cells, z.below ((rest ++ [V.d (I .i64 (i : Int)), .d (Bo false)]).length + 4) := by
              intro y hy z hz
              rcases List.mem_append.1 hy with hy | hy
              · have h1 := hrest y hy z hz
                rw [List.length_append]
                cases z with
                | p b sub => show _ < _; have h1 : b < rest.length + 4 := h1; omega
                | fp fn ps => intro b hb; have h1 : b < rest.length + 4 := h1 b hb; omega
                | _ => trivial
              · simp (implicitDefEqProofs := false) (dsimp := false) only [List.mem_cons, List.not_mem_nil, or_false] at hy
                rcases hy with rfl | rfl
                · simp [V.cells, I] at hz; subst hz; trivial
                · simp [V.cells, Bo] at hz; subst hz; trivial
            have hts' := hts m x ⟨has, seen ||| 2 ^ c⟩ hok' hunl
            have hval : res = match tryF next m x ⟨has, seen ||| 2 ^ c⟩ with
                | (true, s2) => (true, (⟨s2.has.set c (i : Int), s2.seen⟩ : KS))
                | (false, s2) => tryL (tryF next m) i rs s2 := by
              rw [hthis]
              show (if _ then _ else (if _ then _ else _)) = _
              rw [if_neg (by rw [hb]; decide), if_neg (by show ¬ has.getD c default < 0; omega)]
              show (match tryF next m (has.getD c default).toNat ⟨has, seen ||| 2 ^ c⟩ with
                | (true, s2) => (true, (⟨s2.has.set c (i : Int), s2.seen⟩ : KS))
                | (false, s2) => tryL (tryF next m) i rs s2) = _
              rw [hx1, Int.toNat_natCast]
            rw [hx1]
            refine OrH.r (callM2 (fun gh => ih x ⟨has, seen ||| 2 ^ c⟩ (rest ++ [.d (I .i64 (i : Int)), .d (Bo false)]) restR gh hx2 hok' hlen' hor hunl hrest') rfl rfl rfl rfl rfl ?_)
            rintro d bx' rw' gh' ⟨rfl, rfl, rfl, rfl⟩
            refine ⟨rfl, ?_⟩
            generalize tryF next m x ⟨has, seen ||| 2 ^ c⟩ = r at hts' hval ⊢
            obtain ⟨b, has2, seen2⟩ := r
            simp only at hts' hval ⊢
            cases b with
            | true =>
              simp only at hval
              have hlen2 : has2.length = right := by
                have := (hts'.yes rfl).1.len
                simp only at this
                omega
              simp (implicitDefEqProofs := false) (dsimp := false) only [tB, tR, hcr, end0, end1, endS1, QB_r, QM_r, backN_mk, ↓cdK_true, ↓cdK_false, ↓optK_some, ↓rwK_mk_, ↓nthK_H, ↓nthH_zero, ↓aw_cond, ↓aw_seq, ↓aw_ret, ↓aw_reg, ↓Qseq_n, ↓Qseq_r, ↓Qblk_r, ↓ops_nil, ↓ops_cons, ↓eval_tmp, ↓eval_bool, ↓put_some, ↓put_none, ↓bK_b, ↓iK_i, ↓dK_d, ↓ldK_p, ↓iaK_o, ↓op_move, ↓op_pick, ↓op_load, ↓op_ia, ↓op_store, ↓setBox_mk, ↓setRow_mk, ↓st_bx, ↓st_rw, ↓st_gh, ↓row_sz, ↓row_xs, ↓cells_c, ↓vcells_c, ↓vcells_o, ↓one_i, ↓one_b, ↓vone_d, ↓st_p, ↓st_e, ↓ty3, ↓ty4, ↓ty24, ↓sl24, List.getD_cons_zero, List.getD_cons_succ, List.set_cons_zero, List.set_cons_succ, List.cons_append, List.nil_append, List.length_cons, List.length_nil, List.all_cons, List.all_nil, Bool.true_and, Bool.and_self, Nat.reduceAdd, Nat.reduceSub, Nat.reduceMul, Nat.zero_add, Int.toNat_natCast, evK_go, reduceIte, Nat.reduceEqDiff, Nat.reduceLT, and_self, true_and, Int.zero_add, List.drop_zero, List.take_succ_cons, List.drop_succ_cons, List.take_zero, Int.ofNat_lt, Int.natCast_nonneg]
              refine ret_of rfl (end1 _ _ _ _ _) ⟨rfl, ?_, ⟨.d (I .i64 (i : Int)), .d (Bo true), ?_⟩, ?_⟩
              · rw [hval]; try rfl
              · rw [hval]; try rfl
              · rw [hval]
                simp (implicitDefEqProofs := false) (dsimp := false) only [List.map_set]
            | false =>
              simp only at hval
              simp (implicitDefEqProofs := false) (dsimp := false) only [tB, tR, QB_n, backN_mk, ↓cdK_false, ↓aw_cond, ↓aw_skip, ↓Qseq_n, ↓Qblk_n, ↓ops_nil, ↓ops_cons, ↓eval_tmp, ↓put_some, ↓bK_b, ↓op_pick, List.getD_cons_zero, List.getD_cons_succ, List.set_cons_zero, List.set_cons_succ, List.cons_append, List.nil_append, List.length_cons, List.length_nil, Nat.reduceAdd, Nat.reduceSub, Nat.reduceMul, Nat.zero_add, evK_go, reduceIte, Nat.reduceEqDiff, Nat.reduceLT, Int.zero_add, List.drop_zero, List.take_succ_cons, List.drop_succ_cons, List.take_zero]
              have hno := hts'.no rfl
              simp only at hno
              have hun2 : unseen right seen2 ≤ unseen right seen := unseen_le fun j hj => hts'.mono j (by show (seen ||| 2 ^ c).testBit j = true; rw [Nat.testBit_or, hj]; rfl)
              refine ⟨⟨has2, seen2⟩, ⟨P ++ [c], by simp, hnext' _ hval, by rw [hno.1]; exact hok', by rw [hno.1]; exact hlen', hts'.lt hor, by show unseen right seen2 < m + 1; omega⟩, ?_⟩
              exact Wkn.refl _
      · rintro st ⟨P, hP, hrs, hok', hlen', hseen', hun'⟩
        have hP : P = pts (next.getD i default) := (ofNat_inj hP).symm
        have hthis := hrs [] (by rw [hP]; simp)
        simp (implicitDefEqProofs := false) (dsimp := false) only [slots, endS1, end1, QM_r, ↓aw_seq, ↓aw_ret, ↓aw_reg, ↓Qseq_n, ↓Qblk_n, ↓ops_nil, ↓ops_cons, ↓eval_tmp, ↓eval_bool, ↓put_none, ↓op_store, ↓setBox_mk, ↓st_bx, ↓st_rw, ↓st_gh, ↓vcells_c, ↓one_b, ↓vone_d, ↓st_p, ↓ty4, List.getD_cons_zero, List.getD_cons_succ, List.set_cons_zero, List.set_cons_succ, List.length_cons, List.length_nil, List.all_cons, List.all_nil, Bool.true_and, Bool.and_self, Nat.reduceAdd, Nat.reduceSub, Nat.reduceMul, Nat.zero_add, List.replicate, evK_go, reduceIte, Nat.reduceEqDiff, Nat.reduceLT, and_self, true_and, Int.zero_add, List.foldl_cons, List.foldl_nil]
        refine ret_of rfl (end1 _ _ _ _ _) ⟨?_, ⟨.d (I .i64 (i : Int)), .d (Bo false), ?_⟩, ?_⟩
        · rw [hthis]; try rfl
        · rw [hthis]; try rfl
        · rw [hthis]; try rfl
end Go.Proofs

namespace Go.Proofs
open Go.Aw
set_option linter.unusedSimpArgs false
set_option maxRecDepth 10000
def kuhnK (left right : Nat) (l : List (Nat × Nat)) (k : Nat) : List Int := (List.range k).foldl (kuhnI (outS (max left 1) l) right) (List.replicate right (-1))
theorem kuhnK_ok {left right : Nat} {l : List (Nat × Nat)} (hl : Sides left right l) (hr : right ≤ 64) (k : Nat) : HasOK right left l (kuhnK left right l k) := by
  have : ∀ k, ∃ F D, KI left right l k (kuhnK left right l k) F D := by
    intro k
    induction k with
    | zero =>
      refine ⟨fun _ => False, fun _ => False, ⟨⟨by simp [kuhnK], fun j hj => .inl ?_⟩, fun y => ⟨fun h => by omega, fun _ => ?_⟩, fun f hf => hf.elim, fun f hf => hf.elim, fun j hj => hj.elim⟩⟩
      · show (List.replicate right (-1 : Int)).getD j default = -1
        rw [List.getD_eq_getElem?_getD, List.getElem?_replicate, if_pos hj]; rfl
      · show (List.replicate right (-1 : Int)).count (y : Int) = 0
        rw [List.count_eq_zero]
        intro h
        have := (List.mem_replicate.1 h).2
        omega
    | succ k ih =>
      obtain ⟨F, D, h⟩ := ih
      unfold kuhnK
      rw [range_foldl]
      exact h.step hl hr (outS_sides hl hr)
  obtain ⟨_, _, h⟩ := this k
  exact h.ok
theorem kuhnK_succ (left right : Nat) (l : List (Nat × Nat)) (k : Nat) : kuhnK left right l (k + 1) = (tryF (outS (max left 1) l) (right + 1) k ⟨kuhnK left right l k, 0⟩).2.has := range_foldl _ _ _
def negI (right k : Nat) : List Int := List.replicate k (-1 : Int) ++ List.replicate (right - k) 0
theorem negI_len {right k : Nat} (h : k ≤ right) : (negI right k).length = right := by simp [negI]; omega
theorem negI_set {right k : Nat} (h : k < right) : (negI right k).set k (-1) = negI right (k + 1) := by
  unfold negI
  rw [List.set_append_right _ _ (by simp), List.length_replicate, Nat.sub_self, show right - k = (right - (k + 1)) + 1 by omega, List.replicate_succ, List.set_cons_zero, List.replicate_succ', List.append_assoc]; rfl
theorem negI_end (right : Nat) : negI right right = List.replicate right (-1) := by simp [negI]
theorem negI_zero (right : Nat) : (negI right 0).map (I .i64) = List.replicate right (I .i64 0) := by simp [negI]
theorem pairs_spec (left right : Nat) (l : List (Nat × Nat)) (hpre : left ≤ 8 ∧ right ≤ 8 ∧ l.length < 2 ^ 62 ∧ Sides left right l) : FnR Tryd.prog 95 [I .i64 (left : Int), I .i64 (right : Int), .l (l.map lnN)] 1 ((kuhn left right l).map (I .i64)) := by
  obtain ⟨hl8, hr8, hl62, hs⟩ := hpre
  have hout : max left 1 ≤ 64 ∧ l.length < 2 ^ 62 ∧ ∀ p ∈ l, p.1 < max left 1 ∧ p.2 < 64 := ⟨by omega, hl62, fun p hp => by have := hs p hp; omega⟩
  have hg := outS_sides hs (by omega : right ≤ 64)
  have hlt : ∀ x ∈ outS (max left 1) l, x < 2 ^ 64 := outS_lt _ _ fun p hp => by have := hs p hp; omega
  have hmax : (if 1 > (left : Int) then (1 : Int) else (left : Int)) = ((max left 1 : Nat) : Int) := by split <;> omega
  have htry := try_spec hr8 hl8 hg hlt hs
  refine FnR.go Tryd.func95 rfl rfl Tryd.results95 Tryd.ntmps95 ?_
  simp (implicitDefEqProofs := false) (dsimp := false) only [↓aw_seq, ↓aw_reg, ↓Qseq_n, ↓ops_nil, ↓ops_cons, ↓eval_tmp, ↓eval_int, ↓eval_nil, ↓eval_func, ↓put_some, ↓iK_i, ↓op_move, ↓op_assign, ↓op_max, ↓op_call, isD_d, ↓fnK_f, ↓call_H, ↓callK_H, ↓allT_nil, ↓allT_cons, ↓td_d, List.getD_cons_zero, List.getD_cons_succ, List.set_cons_zero, List.set_cons_succ, List.cons_append, List.nil_append, List.append_nil, List.map_cons, List.map_nil, List.length_cons, List.length_nil, List.all_cons, List.all_nil, Bool.true_and, Bool.and_self, Nat.reduceAdd, Nat.reduceSub, Nat.reduceMul, Nat.zero_add, List.replicate, evK_go, reduceIte, Nat.reduceEqDiff, Nat.reduceLT, and_self, true_and, Int.zero_add]
  simp (implicitDefEqProofs := false) (dsimp := false) only [hmax, out_callD, hout, ↓optK_some, ↓rwK_mk_, ↓nthK_H, ↓nthH_zero, ↓aw_seq, ↓aw_block, ↓aw_loop, ↓aw_reg, ↓Qseq_n, ↓ops_nil, ↓ops_cons, ↓eval_tmp, ↓eval_int, ↓put_some, ↓put_none, ↓iK_i, ↓dK_d, ↓lenK_o, ↓ldK_p, ↓op_move, ↓op_load, ↓op_len, ↓op_alloc, ↓op_store, ↓op_make, ↓addBox_mk, ↓addRow_mk, ↓setBox_mk, ↓st_bx, ↓st_rw, ↓cells_c, ↓vcells_l, ↓vcells_nl, ↓vcells_o, ↓one_i, ↓one_l, ↓vone_d, ↓vone_o, constV_i, constV_n, ↓st_p, ↓mk_, ↓vsz_int, ↓ty3, ↓zb3, ↓ty24, ↓sl24, ↓zb24, ↓ty99, ↓zb99, List.getD_cons_zero, List.getD_cons_succ, List.set_cons_zero, List.set_cons_succ, List.cons_append, List.nil_append, List.length_cons, List.length_nil, List.all_cons, List.all_nil, Bool.and_true, Bool.true_and, Bool.and_self, Bool.true_or, Nat.reduceAdd, Nat.reduceSub, Nat.reduceMul, Nat.zero_add, Int.toNat_natCast, evK_go, reduceIte, Nat.reduceEqDiff, Nat.reduceLT, and_self, true_and, and_true, Int.zero_add, Int.natCast_nonneg]
  (repeat refine OrH.l ?_)
  refine ⟨hout.2.2, ?_⟩
  (repeat refine OrH.l ?_)
  refine ⟨⟨by omega, by decide⟩, ?_⟩
  refine loopW (fun k : Nat => { tm := slots 38 [(0, .d (I .i64 (left : Int))), (7, .p 0 0), (8, .p 1 0), (20, .d (I .i64 (right : Int))), (21, .d (I .i64 k))], bx := [.d (.l ((outS (max left 1) l).map U)), .o 0 0 right], rw := [some ⟨1, (negI right k).map (I .i64)⟩] })
    (fun k => k ≤ right) (fun k => right - k) 0 (by simp) ?_ ?_
  · refine Wkn.of [0, 1] [some 0] ?_
    simp (implicitDefEqProofs := false) (dsimp := false) only [negI_zero, ↓vcells_l, ↓vcells_o, List.getD_cons_zero, List.getD_cons_succ, List.set_cons_zero, List.set_cons_succ, List.length_cons, List.length_nil, Bool.and_self, Nat.reduceAdd, Nat.reduceSub, Nat.reduceMul, Nat.zero_add, List.replicate, evK_go, reduceIte, Nat.reduceEqDiff, Nat.reduceLT, and_self, Int.zero_add, List.foldl_cons, List.foldl_nil, Int.cast_ofNat_Int, slots, wkL_nil, wkL_cons, wkB_nil, wkB_cons, wkR_nil, wkR_some, wkV_j, wkV_d, wkV_o, wkV_p, frz_d, oK_zs, pK_z, pK_s, reduceCtorEq]
  · intro k hk
    simp (implicitDefEqProofs := false) (dsimp := false) only [slots, ↓aw_cond, ↓aw_seq, ↓aw_reg, ↓Qseq_n, ↓ops_nil, ↓ops_cons, ↓eval_tmp, ↓put_some, ↓bK_b, ↓binE_i, ↓bi_lss, ↓op_bin, List.getD_cons_zero, List.getD_cons_succ, List.set_cons_zero, List.set_cons_succ, Nat.reduceAdd, Nat.reduceSub, Nat.reduceMul, List.replicate, evK_go, reduceIte, Nat.reduceEqDiff, Nat.reduceLT, List.foldl_cons, List.foldl_nil, Int.ofNat_lt]
    refine cdK_dec (fun h => ?_) (fun h => ?_)
    · have hlk := negI_len hk
      have hset := negI_set h
      simp (implicitDefEqProofs := false) (dsimp := false) only [h, ↓optK_some, ↓rwK_mk_, ↓nthK_H, ↓nthH_zero, ↓aw_seq, ↓aw_block, ↓aw_skip, ↓aw_reg, ↓Qseq_n, ↓Qblk_n, ↓ops_nil, ↓ops_cons, ↓eval_tmp, ↓eval_int, ↓put_some, ↓put_none, ↓iK_i, ↓dK_d, ↓binE_i, ↓bi_add, ↓in_i64, ↓ldK_p, ↓iaK_o, ↓op_move, ↓op_assign, ↓op_load, ↓op_bin, ↓op_ia, ↓op_store, ↓setRow_mk, ↓row_sz, ↓row_xs, ↓cells_c, ↓vcells_o, ↓one_i, ↓st_e, ↓ty3, ↓ty24, ↓sl24, List.getD_cons_zero, List.getD_cons_succ, List.set_cons_zero, List.set_cons_succ, List.length_cons, List.length_nil, List.all_cons, List.all_nil, Bool.true_and, Bool.and_self, Nat.reduceAdd, Nat.reduceSub, Nat.reduceMul, Nat.zero_add, Int.toNat_natCast, evK_go, reduceIte, decide_true, Nat.reduceEqDiff, Nat.reduceLT, and_self, true_and, Int.zero_add, Int.ofNat_lt, Int.natCast_nonneg]
      refine ⟨by omega, k + 1, by omega, by omega, ?_⟩
      refine Wkn.of [0, 1] [some 0] ?_
      simp (implicitDefEqProofs := false) (dsimp := false) only [← hset, List.map_set, ↓vcells_l, ↓vcells_o, List.getD_cons_zero, List.getD_cons_succ, List.set_cons_zero, List.set_cons_succ, List.length_cons, List.length_nil, Bool.and_self, Nat.reduceAdd, Nat.reduceSub, Nat.reduceMul, Nat.zero_add, List.replicate, evK_go, reduceIte, Nat.reduceEqDiff, Nat.reduceLT, and_self, Int.zero_add, List.foldl_cons, List.foldl_nil, Int.cast_ofNat_Int, Int.natCast_add, slots, wkL_nil, wkL_cons, wkB_nil, wkB_cons, wkR_nil, wkR_some, wkV_j, wkV_d, wkV_o, wkV_p, frz_d, oK_zs, pK_z, pK_s, reduceCtorEq]
    · obtain rfl : k = right := by omega
      simp (implicitDefEqProofs := false) (dsimp := false) only [negI_end, ↓aw_seq, ↓aw_block, ↓aw_exit, ↓aw_loop, ↓aw_reg, ↓Qseq_n, ↓Qseq_x, ↓Qblk_x, ↓ops_nil, ↓ops_cons, ↓eval_tmp, ↓eval_int, ↓put_some, ↓op_move, List.getD_cons_zero, List.set_cons_zero, List.set_cons_succ, Nat.reduceAdd, Nat.reduceSub, Nat.reduceMul, evK_go, reduceIte, decide_false, Nat.reduceEqDiff, Nat.reduceLT, Nat.lt_irrefl]
      refine loopW (fun i : Nat => { tm := slots 38 [(7, .p 0 0), (8, .p 1 0), (28, .d (I .i64 (left : Int))), (29, .d (I .i64 i))], bx := [.d (.l ((outS (max left 1) l).map U)), .o 0 0 k], rw := [some ⟨1, (kuhnK left k l i).map (I .i64)⟩] })
        (fun i => i ≤ left) (fun i => left - i) 0 (by simp) ?_ ?_
      · refine Wkn.of [0, 1] [some 0] ?_
        simp (implicitDefEqProofs := false) (dsimp := false) only [kuhnK, List.range_zero, List.foldl_nil, ↓vcells_l, ↓vcells_o, List.getD_cons_zero, List.getD_cons_succ, List.set_cons_zero, List.set_cons_succ, List.length_cons, List.length_nil, Bool.and_self, Nat.reduceAdd, Nat.reduceSub, Nat.reduceMul, Nat.zero_add, List.replicate, evK_go, reduceIte, Nat.reduceEqDiff, Nat.reduceLT, and_self, Int.zero_add, List.foldl_cons, List.foldl_nil, Int.cast_ofNat_Int, slots, wkL_nil, wkL_cons, wkB_nil, wkB_cons, wkR_nil, wkR_some, wkV_j, wkV_d, wkV_o, wkV_p, frz_d, oK_zs, pK_z, pK_s, reduceCtorEq]
      · intro i hi
        have hok := kuhnK_ok hs (by omega) i
        simp (implicitDefEqProofs := false) (dsimp := false) only [slots, ↓aw_cond, ↓aw_seq, ↓aw_reg, ↓Qseq_n, ↓ops_nil, ↓ops_cons, ↓eval_tmp, ↓put_some, ↓bK_b, ↓binE_i, ↓bi_lss, ↓op_bin, List.getD_cons_zero, List.getD_cons_succ, List.set_cons_zero, List.set_cons_succ, Nat.reduceAdd, Nat.reduceSub, Nat.reduceMul, List.replicate, evK_go, reduceIte, Nat.reduceEqDiff, Nat.reduceLT, List.foldl_cons, List.foldl_nil, Int.ofNat_lt]
        refine cdK_dec (fun h' => ?_) (fun h' => ?_)
        · simp (implicitDefEqProofs := false) (dsimp := false) only [ty112, zb112, cells_fp, ↓nthK_H, ↓nthH_zero, ↓aw_seq, ↓aw_block, ↓aw_skip, ↓aw_reg, ↓Qseq_n, ↓ops_nil, ↓ops_cons, ↓eval_tmp, ↓eval_int, ↓put_some, ↓put_none, ↓capsK_nil, ↓capsK_cons, ↓ldK_p, ↓op_move, ↓op_assign, ↓op_load, ↓op_func, ↓op_call, ↓op_alloc, ↓op_store, isD_d, isD_fp, ↓fnK_f, ↓call_H, ↓callK_H, ↓allT_nil, ↓allT_cons, ↓td_d, ↓boxK_d, ↓td_fp, ↓bq_nil, ↓bq_cons, ↓addBox_mk, ↓setBox_mk, ↓st_bx, ↓cells_c, ↓cells_l, ↓vcells_c, ↓one_i, ↓vone_d, constV_i, ↓st_p, ↓ty102, ↓zb102, List.getD_cons_zero, List.getD_cons_succ, List.set_cons_zero, List.set_cons_succ, List.cons_append, List.nil_append, List.map_cons, List.map_nil, List.length_cons, List.length_nil, List.all_cons, List.all_nil, Bool.and_true, Bool.true_and, Bool.and_self, Nat.reduceAdd, Nat.reduceSub, Nat.reduceMul, Nat.zero_add, evK_go, reduceIte, Nat.reduceEqDiff, Nat.reduceLT, and_self, true_and, and_true, Int.zero_add, List.drop_zero]
          have hun : unseen k 0 < k + 1 := by
            have := List.countP_le_length (p := fun j => !(0 : Nat).testBit j) (l := List.range k)
            simp (implicitDefEqProofs := false) (dsimp := false) only [List.length_range] at this
            unfold unseen; omega
          refine ⟨⟨rfl, rfl⟩, OrH.r (callM2 (fun gh => htry (k + 1) i ⟨kuhnK left k l i, 0⟩ [] [] gh h' hok hok.len (by show (0 : Nat) < 2 ^ 64; decide) hun (by simp)) rfl rfl rfl rfl rfl ?_)⟩
          rintro d bx' rw' gh' ⟨rfl, rfl, rfl, rfl⟩
          refine ⟨rfl, ?_⟩
          simp (implicitDefEqProofs := false) (dsimp := false) only [← kuhnK_succ, tB, tR, ↓aw_reg, ↓Qseq_n, ↓Qblk_n, ↓ops_nil, ↓ops_cons, ↓eval_tmp, ↓eval_int, ↓put_some, ↓binE_i, ↓bi_add, ↓in_i64, ↓op_move, ↓op_bin, ↓st_tm, ↓st_gh, List.getD_cons_zero, List.getD_cons_succ, List.set_cons_zero, List.set_cons_succ, List.append_nil, List.length_cons, List.length_nil, Nat.reduceAdd, Nat.reduceSub, Nat.reduceMul, Nat.zero_add, evK_go, reduceIte, Nat.reduceEqDiff, Nat.reduceLT, Int.zero_add, List.take_succ_cons, List.drop_succ_cons, List.take_nil, List.drop_nil]
          refine ⟨by omega, i + 1, by omega, by omega, ?_⟩
          refine Wkn.of [0, 1] [some 0] ?_
          simp (implicitDefEqProofs := false) (dsimp := false) only [↓vcells_l, ↓vcells_o, List.getD_cons_zero, List.getD_cons_succ, List.set_cons_zero, List.set_cons_succ, List.length_cons, List.length_nil, Bool.and_self, Nat.reduceAdd, Nat.reduceSub, Nat.reduceMul, Nat.zero_add, List.replicate, evK_go, reduceIte, Nat.reduceEqDiff, Nat.reduceLT, and_self, Int.zero_add, List.foldl_cons, List.foldl_nil, Int.cast_ofNat_Int, Int.natCast_add, slots, wkL_nil, wkL_cons, wkB_nil, wkB_cons, wkR_nil, wkR_some, wkV_j, wkV_d, wkV_o, wkV_p, frz_d, oK_zs, pK_z, pK_s, reduceCtorEq]
        · obtain rfl : i = left := by omega
          simp (implicitDefEqProofs := false) (dsimp := false) only [↓optK_some, ↓rwK_mk_, ↓nthK_H, ↓nthH_zero, ↓aw_seq, ↓aw_exit, ↓aw_ret, ↓aw_reg, ↓Qseq_n, ↓Qseq_x, ↓Qblk_x, ↓ops_nil, ↓ops_cons, ↓eval_tmp, ↓put_some, ↓ldK_p, ↓op_assign, ↓op_load, ↓row_sz, ↓row_xs, ↓vcells_o, ↓Qrow_r, ↓rowK_o, ↓ty24, List.getD_cons_zero, List.getD_cons_succ, List.set_cons_zero, List.set_cons_succ, Bool.true_and, Nat.reduceAdd, Nat.reduceSub, Nat.reduceMul, evK_go, reduceIte, decide_false, Nat.reduceEqDiff, Nat.reduceLT, true_and, Nat.lt_irrefl]
          have hok' : HasOK k i l (kuhnK i k l i) := hok
          exact List.take_of_length_le (by simp [hok'.len])
theorem pairs_callD (left right : Nat) (l : List (Nat × Nat)) (pure : Bool) (σ : St) (dst : Option Tmp) (K : St → Prop) : CallH Tryd.prog 95 [I .i64 (left : Int), I .i64 (right : Int), .l (l.map lnN)] pure σ dst (.mk : Hid K) = OrH ((left ≤ 8 ∧ right ≤ 8 ∧ l.length < 2 ^ 62 ∧ Sides left right l) ∧ (pure || D.flat (.l ((kuhn left right l).map (I .i64)))) = true ∧ evK (σ.put dst (.d (.l ((kuhn left right l).map (I .i64))))) (.mk : Hid K)) (.mk : Hid (CallH Tryd.prog 95 [I .i64 (left : Int), I .i64 (right : Int), .l (l.map lnN)] pure σ dst (.mk : Hid K))) := CallH.eq (fun h => ((fun h => pairs_spec left right l h) h).data) pure σ dst K
end Go.Proofs

namespace Go.Proofs
open Go.Aw
set_option linter.unusedSimpArgs false
set_option maxRecDepth 10000
def mErr (left right : Int) (p : Int × Int) : Int := if (inB p.1 0 (left - 1) && inB p.2 0 (right - 1)) = true then 0 else 1
def mchk (left right : Int) (l : List (Int × Int)) : Int := if (inB left 0 6 && inB right 0 6) = false then 1 else if 24 < l.length then 4 else firstErr (mErr left right) l
theorem mcheck_spec (left right : Int) (l : List (Int × Int)) (hpre : l.length < 2 ^ 62) : FnD Tryd.prog 38 [I .i64 left, I .i64 right, .l (l.map lnD)] (erD (mchk left right l)) := by
  refine FnD.go Tryd.func38 rfl rfl Tryd.results38 Tryd.ntmps38 ?_
  simp (implicitDefEqProofs := false) (dsimp := false) only [↓aw_seq, ↓aw_reg, ↓Qseq_n, ↓ops_nil, ↓ops_cons, ↓eval_tmp, ↓eval_int, ↓eval_func, ↓put_some, ↓op_move, ↓op_assign, ↓op_call, isD_d, ↓fnK_f, ↓call_H, ↓callK_H, ↓allT_nil, ↓allT_cons, ↓td_d, List.getD_cons_zero, List.getD_cons_succ, List.set_cons_zero, List.set_cons_succ, List.cons_append, List.nil_append, List.append_nil, List.map_cons, List.map_nil, List.length_cons, List.length_nil, List.all_cons, List.all_nil, Bool.and_self, Nat.reduceAdd, Nat.reduceSub, Nat.reduceMul, Nat.zero_add, List.replicate, evK_go, reduceIte, Nat.reduceEqDiff, Nat.reduceLT, and_self, Int.zero_add]
  simp (implicitDefEqProofs := false) (dsimp := false) only [within_call, eval_nilI, ↓cdK_not, ↓gdK_f, ↓gval_mk, ↓gvL_zero, ↓gvL_succ, ↓ops_cons, ↓ops_guard, ↓eval_tmp, ↓put_some, ↓bK_b, ↓op_move, ↓op_not, ↓st_tm, List.getD_cons_zero, List.getD_cons_succ, List.set_cons_zero, List.set_cons_succ, Bool.true_and, Bool.true_or, Nat.reduceAdd, Nat.reduceSub, Nat.reduceMul, evK_go, reduceIte, Nat.reduceEqDiff, Nat.reduceLT, true_and]
  refine OrH.l (OrH.l (cdK_split (fun hA => ?_) (fun hA => ?_)))
  rotate_left
  · have e : mchk left right l = 1 := by simp (implicitDefEqProofs := false) (dsimp := false) only [mchk, hA, Bool.false_and, reduceIte]
    rw [e]
    simp (implicitDefEqProofs := false) (dsimp := false) only [hA, nc108, erD_1, ↓cdK_true, ↓gdK_f, ↓gval_mk, ↓gvL_zero, ↓gvL_succ, ↓aw_cond, ↓aw_seq, ↓aw_ret, ↓aw_reg, ↓Qseq_n, ↓Qseq_r, ↓Qret_r, ↓ops_nil, ↓ops_cons, ↓ops_guard, ↓eval_tmp, ↓eval_int, ↓eval_bool, ↓put_some, ↓bK_b, ↓vK_c, ↓op_assign, ↓op_pick, ↓op_iface, ↓td_d, ↓ret_1, ↓st_tm, ↓nc108, List.getD_cons_zero, List.getD_cons_succ, List.set_cons_zero, List.set_cons_succ, Bool.and_self, Nat.reduceAdd, Nat.reduceSub, Nat.reduceMul, evK_go, reduceIte, Bool.not_false, Nat.reduceEqDiff, Nat.reduceLT, and_self]
  simp (implicitDefEqProofs := false) (dsimp := false) only [hA, within_call, ↓cdK_false, ↓cdK_not, ↓gdK_f, ↓gval_mk, ↓gvL_zero, ↓gvL_succ, ↓aw_cond, ↓Qseq_n, ↓ops_nil, ↓ops_cons, ↓ops_guard, ↓eval_tmp, ↓eval_int, ↓eval_func, ↓put_some, ↓bK_b, ↓op_move, ↓op_pick, ↓op_not, ↓op_call, isD_d, ↓fnK_f, ↓call_H, ↓callK_H, ↓allT_nil, ↓allT_cons, ↓td_d, ↓st_tm, List.getD_cons_zero, List.getD_cons_succ, List.set_cons_zero, List.set_cons_succ, List.append_nil, List.all_cons, List.all_nil, Bool.true_and, Bool.and_self, Bool.true_or, Nat.reduceAdd, Nat.reduceSub, Nat.reduceMul, evK_go, reduceIte, Bool.not_true, Nat.reduceEqDiff, Nat.reduceLT, and_self, true_and]
  refine OrH.l (OrH.l (cdK_split (fun hB => ?_) (fun hB => ?_)))
  rotate_left
  · have e : mchk left right l = 1 := by simp (implicitDefEqProofs := false) (dsimp := false) only [mchk, hB, Bool.and_false, reduceIte]
    rw [e]
    simp (implicitDefEqProofs := false) (dsimp := false) only [hB, nc108, erD_1, ↓aw_seq, ↓aw_ret, ↓aw_reg, ↓Qseq_n, ↓Qseq_r, ↓Qret_r, ↓ops_nil, ↓ops_cons, ↓eval_tmp, ↓eval_int, ↓put_some, ↓vK_c, ↓op_assign, ↓op_iface, ↓td_d, ↓ret_1, ↓nc108, List.getD_cons_zero, List.getD_cons_succ, List.set_cons_zero, List.set_cons_succ, Bool.and_self, Nat.reduceAdd, Nat.reduceSub, Nat.reduceMul, evK_go, reduceIte, Bool.not_false, Nat.reduceEqDiff, Nat.reduceLT, and_self]
  simp (implicitDefEqProofs := false) (dsimp := false) only [hB, ↓aw_cond, ↓aw_seq, ↓aw_skip, ↓aw_reg, ↓Qseq_n, ↓ops_nil, ↓ops_cons, ↓eval_tmp, ↓eval_int, ↓put_some, ↓bK_b, ↓lenK_l, ↓binE_i, ↓bi_gtr, ↓op_move, ↓op_bin, ↓op_len, ↓sl22, List.getD_cons_zero, List.getD_cons_succ, List.set_cons_zero, List.set_cons_succ, List.length_map, Nat.reduceAdd, Nat.reduceSub, Nat.reduceMul, evK_go, reduceIte, Bool.not_true, Nat.reduceEqDiff, Nat.reduceLT]
  refine cdK_dec (fun h24 => ?_) (fun h24 => ?_)
  · have e : mchk left right l = 4 := by
      unfold mchk
      rw [hA, hB, if_neg (by decide), if_pos (by omega)]
    rw [e]
    simp (implicitDefEqProofs := false) (dsimp := false) only [nc108, erD_4, ↓aw_seq, ↓aw_ret, ↓aw_reg, ↓Qseq_n, ↓Qseq_r, ↓Qret_r, ↓ops_nil, ↓ops_cons, ↓eval_tmp, ↓eval_int, ↓put_some, ↓vK_c, ↓op_assign, ↓op_iface, ↓td_d, ↓ret_1, ↓nc108, List.getD_cons_zero, List.getD_cons_succ, List.set_cons_zero, List.set_cons_succ, Bool.and_self, Nat.reduceAdd, Nat.reduceSub, Nat.reduceMul, evK_go, reduceIte, Nat.reduceEqDiff, Nat.reduceLT, and_self]
  have hc : mchk left right l = firstErr (mErr left right) l := by
    unfold mchk
    rw [hA, hB, if_neg (by decide), if_neg (by omega)]
  rw [hc]
  simp (implicitDefEqProofs := false) (dsimp := false) only [↓aw_seq, ↓aw_block, ↓aw_skip, ↓aw_loop, ↓aw_reg, ↓Qseq_n, ↓ops_nil, ↓ops_cons, ↓eval_tmp, ↓eval_int, ↓put_some, ↓lenK_l, ↓op_move, ↓op_len, ↓sl22, List.getD_cons_zero, List.getD_cons_succ, List.set_cons_zero, List.set_cons_succ, List.length_map, Nat.reduceAdd, Nat.reduceSub, Nat.reduceMul, evK_go, reduceIte, Nat.reduceEqDiff, Nat.reduceLT]
  have hA' := inB_iff.1 hA
  have hB' := inB_iff.1 hB
  refine loopW (fun k : Nat => { tm := slots 44 [(0, .d (I .i64 left)), (1, .d (I .i64 right)), (22, .d (.l (l.map lnD))), (23, .d (I .i64 l.length)), (24, .d (I .i64 k))], bx := [], rw := [] })
    (fun k => k ≤ l.length ∧ firstErr (mErr left right) (l.take k) = 0) (fun k => l.length - k) 0 ⟨by simp, by simp [firstErr]⟩ ?_ ?_
  · refine Wkn.of [] [] ?_; simp (implicitDefEqProofs := false) (dsimp := false) only [List.set_cons_zero, List.set_cons_succ, Bool.and_self, Nat.reduceAdd, Nat.reduceSub, Nat.reduceMul, List.replicate, evK_go, reduceIte, Nat.reduceEqDiff, Nat.reduceLT, and_self, List.foldl_cons, List.foldl_nil, Int.cast_ofNat_Int, slots, wkL_nil, wkL_cons, wkB_nil, wkR_nil, wkV_j, wkV_d, frz_d, reduceCtorEq]
  · rintro k ⟨h1, h2⟩
    simp (implicitDefEqProofs := false) (dsimp := false) only [slots, ↓aw_cond, ↓aw_seq, ↓aw_reg, ↓Qseq_n, ↓ops_nil, ↓ops_cons, ↓eval_tmp, ↓put_some, ↓bK_b, ↓binE_i, ↓bi_lss, ↓op_bin, List.getD_cons_zero, List.getD_cons_succ, List.set_cons_zero, List.set_cons_succ, Nat.reduceAdd, Nat.reduceSub, Nat.reduceMul, List.replicate, evK_go, reduceIte, Nat.reduceEqDiff, Nat.reduceLT, List.foldl_cons, List.foldl_nil, Int.ofNat_lt]
    refine cdK_dec (fun h => ?_) (fun h => ?_)
    · obtain ⟨g1, g2⟩ := firstErr_take h h2
      simp (implicitDefEqProofs := false) (dsimp := false) only [h, lnD, within_call, ↓cdK_not, ↓gdK_f, ↓gval_mk, ↓gvL_zero, ↓gvL_succ, ↓atK_H, ↓atH_map, ↓nthK_H, ↓nthH_zero, ↓aw_seq, ↓aw_block, ↓aw_skip, ↓aw_reg, ↓Qseq_n, ↓ops_nil, ↓ops_cons, ↓ops_guard, ↓eval_tmp, ↓eval_int, ↓eval_func, ↓put_some, ↓put_none, ↓bK_b, ↓iK_i, ↓binE_i, ↓bi_sub, ↓in_i64, ↓ldK_q, ↓ldK_p, ↓faK_p, ↓iaK_l, ↓op_move, ↓op_load, ↓op_bin, ↓op_not, ↓op_fa, ↓op_ia, ↓op_call, ↓op_alloc, ↓op_store, isD_d, ↓fnK_f, ↓call_H, ↓callK_H, ↓allT_nil, ↓allT_cons, ↓td_d, ↓addBox_mk, ↓setBox_mk, ↓st_tm, ↓st_bx, ↓cells_s, ↓vcells_s, ↓one_i, ↓vone_d, constV_a, ↓st_p, ↓ty3, ↓sl22, ↓ty41, ↓zb41, ↓fd41_0, List.getD_cons_zero, List.getD_cons_succ, List.set_cons_zero, List.set_cons_succ, List.nil_append, List.append_nil, List.map_cons, List.map_nil, List.length_cons, List.length_nil, List.all_cons, List.all_nil, Bool.true_and, Bool.and_self, Bool.true_or, Nat.reduceAdd, Nat.reduceSub, Nat.reduceMul, Nat.zero_add, Nat.add_zero, Int.toNat_natCast, evK_go, reduceIte, decide_true, Nat.reduceEqDiff, Nat.reduceLT, and_self, true_and, Int.zero_add, List.take_succ_cons, List.take_nil, Int.natCast_nonneg]
      refine ⟨by decide, by omega, OrH.l (OrH.l (cdK_split (fun ha => ?_) (fun ha => ?_)))⟩
      rotate_left
      · have e : mErr left right (l.getD k default) = 1 := by simp (implicitDefEqProofs := false) (dsimp := false) only [mErr, ha, Bool.false_and, Bool.false_eq_true, reduceIte]
        rw [g2 (by rw [e]; decide), e]
        simp (implicitDefEqProofs := false) (dsimp := false) only [ha, nc108, erD_1, ↓cdK_true, ↓gdK_f, ↓gval_mk, ↓gvL_zero, ↓gvL_succ, ↓aw_cond, ↓aw_seq, ↓aw_ret, ↓aw_reg, ↓Qseq_n, ↓Qseq_r, ↓Qblk_r, ↓Qret_r, ↓ops_nil, ↓ops_cons, ↓ops_guard, ↓eval_tmp, ↓eval_int, ↓eval_bool, ↓put_some, ↓bK_b, ↓vK_c, ↓op_assign, ↓op_pick, ↓op_iface, ↓td_d, ↓ret_1, ↓st_tm, ↓nc108, List.getD_cons_zero, List.getD_cons_succ, List.set_cons_zero, List.set_cons_succ, Bool.and_self, Nat.reduceAdd, Nat.reduceSub, Nat.reduceMul, evK_go, reduceIte, Bool.not_false, Nat.reduceEqDiff, Nat.reduceLT, and_self]
      simp (implicitDefEqProofs := false) (dsimp := false) only [ha, within_call, ↓cdK_false, ↓cdK_not, ↓gdK_f, ↓gval_mk, ↓gvL_zero, ↓gvL_succ, ↓nthK_H, ↓nthH_zero, ↓nthH_succ, ↓aw_cond, ↓Qseq_n, ↓ops_nil, ↓ops_cons, ↓ops_guard, ↓eval_tmp, ↓eval_int, ↓eval_func, ↓put_some, ↓bK_b, ↓binE_i, ↓bi_sub, ↓in_i64, ↓ldK_p, ↓faK_p, ↓op_move, ↓op_pick, ↓op_load, ↓op_bin, ↓op_not, ↓op_fa, ↓op_call, isD_d, ↓fnK_f, ↓call_H, ↓callK_H, ↓allT_nil, ↓allT_cons, ↓td_d, ↓st_tm, ↓vcells_s, ↓ty3, ↓fd41_1, List.getD_cons_zero, List.getD_cons_succ, List.set_cons_zero, List.set_cons_succ, List.append_nil, List.map_cons, List.map_nil, List.all_cons, List.all_nil, Bool.true_and, Bool.and_self, Bool.true_or, Nat.reduceAdd, Nat.reduceSub, Nat.reduceMul, Nat.zero_add, evK_go, reduceIte, Bool.not_true, Nat.reduceEqDiff, Nat.reduceLT, and_self, true_and, Int.zero_add]
      refine ⟨by omega, OrH.l (OrH.l (cdK_split (fun hb => ?_) (fun hb => ?_)))⟩
      · have e : mErr left right (l.getD k default) = 0 := by simp (implicitDefEqProofs := false) (dsimp := false) only [mErr, ha, hb, Bool.and_self, reduceIte]
        simp (implicitDefEqProofs := false) (dsimp := false) only [hb, ↓aw_skip, ↓aw_reg, ↓Qseq_n, ↓Qblk_n, ↓ops_nil, ↓ops_cons, ↓eval_tmp, ↓eval_int, ↓put_some, ↓binE_i, ↓bi_add, ↓in_i64, ↓op_move, ↓op_bin, List.getD_cons_zero, List.getD_cons_succ, List.set_cons_zero, List.set_cons_succ, Nat.reduceAdd, Nat.reduceSub, Nat.reduceMul, evK_go, reduceIte, Bool.not_true, Nat.reduceEqDiff, Nat.reduceLT]
        refine ⟨by omega, k + 1, ⟨by omega, g1 e⟩, by omega, ?_⟩
        refine Wkn.of [] [] ?_; simp (implicitDefEqProofs := false) (dsimp := false) only [List.set_cons_zero, List.set_cons_succ, Bool.and_self, Nat.reduceAdd, Nat.reduceSub, Nat.reduceMul, List.replicate, evK_go, reduceIte, Nat.reduceEqDiff, Nat.reduceLT, and_self, List.foldl_cons, List.foldl_nil, Int.cast_ofNat_Int, Int.natCast_add, slots, wkL_nil, wkL_cons, wkB_nil, wkR_nil, wkV_j, wkV_d, frz_d, reduceCtorEq]
      · have e : mErr left right (l.getD k default) = 1 := by simp (implicitDefEqProofs := false) (dsimp := false) only [mErr, hb, Bool.and_false, Bool.false_eq_true, reduceIte]
        rw [g2 (by rw [e]; decide), e]
        simp (implicitDefEqProofs := false) (dsimp := false) only [hb, nc108, erD_1, ↓aw_seq, ↓aw_ret, ↓aw_reg, ↓Qseq_n, ↓Qseq_r, ↓Qblk_r, ↓Qret_r, ↓ops_nil, ↓ops_cons, ↓eval_tmp, ↓eval_int, ↓put_some, ↓vK_c, ↓op_assign, ↓op_iface, ↓td_d, ↓ret_1, ↓nc108, List.getD_cons_zero, List.getD_cons_succ, List.set_cons_zero, List.set_cons_succ, Bool.and_self, Nat.reduceAdd, Nat.reduceSub, Nat.reduceMul, evK_go, reduceIte, Bool.not_false, Nat.reduceEqDiff, Nat.reduceLT, and_self]
    · obtain rfl : k = l.length := by omega
      rw [List.take_length] at h2
      rw [h2]
      simp (implicitDefEqProofs := false) (dsimp := false) only [erD_0, eval_nilI, ↓aw_seq, ↓aw_exit, ↓aw_ret, ↓aw_reg, ↓Qseq_n, ↓Qseq_x, ↓Qblk_x, ↓Qret_r, ↓ops_nil, ↓ops_cons, ↓eval_tmp, ↓put_some, ↓op_assign, ↓td_d, ↓ret_1, List.getD_cons_zero, List.getD_cons_succ, List.set_cons_zero, List.set_cons_succ, Nat.reduceAdd, Nat.reduceSub, Nat.reduceMul, evK_go, reduceIte, decide_false, Nat.reduceEqDiff, Nat.reduceLT, Nat.lt_irrefl]
theorem mcheck_call (left right : Int) (l : List (Int × Int)) (pure : Bool) (σ : St) (dst : Option Tmp) (K : St → Prop) : CallH Tryd.prog 38 [I .i64 left, I .i64 right, .l (l.map lnD)] pure σ dst (.mk : Hid K) = OrH ((l.length < 2 ^ 62) ∧ (pure || D.flat (erD (mchk left right l))) = true ∧ evK (σ.put dst (.d (erD (mchk left right l)))) (.mk : Hid K)) (.mk : Hid (CallH Tryd.prog 38 [I .i64 left, I .i64 right, .l (l.map lnD)] pure σ dst (.mk : Hid K))) := CallH.eq (mcheck_spec left right l) pure σ dst K
/-- What two sides without fault are. -/
structure MOk (left right : Int) (l : List (Int × Int)) : Prop where
  l0 : left = (left.toNat : Int)
  r0 : right = (right.toNat : Int)
  lhi : left.toNat ≤ 6
  rhi : right.toNat ≤ 6
  len : l.length ≤ 24
  rng : ∀ p ∈ l, 0 ≤ p.1 ∧ 0 ≤ p.2
  sides : Sides left.toNat right.toNat (natL l)
theorem mchk_iff {left right : Int} {l : List (Int × Int)} : mchk left right l = 0 ↔ ((0 ≤ left ∧ left ≤ 6) ∧ 0 ≤ right ∧ right ≤ 6) ∧ l.length ≤ 24 ∧ ∀ p ∈ l, (0 ≤ p.1 ∧ p.1 ≤ left - 1) ∧ 0 ≤ p.2 ∧ p.2 ≤ right - 1 := by
  have hm : ∀ p, mErr left right p = 0 ↔ (0 ≤ p.1 ∧ p.1 ≤ left - 1) ∧ 0 ≤ p.2 ∧ p.2 ≤ right - 1 := fun p => by
    unfold mErr
    rw [← inB_iff, ← inB_iff, ← Bool.and_eq_true]
    split
    · rename_i h; exact ⟨fun _ => h, fun _ => rfl⟩
    · rename_i h; exact ⟨(fun h' => by cases h'), fun h' => absurd h' h⟩
  unfold mchk
  rw [← inB_iff, ← inB_iff, ← Bool.and_eq_true]
  split
  · rename_i h
    constructor
    · intro h; cases h
    · intro h'; rw [h] at h'; exact absurd h'.1 (by decide)
  · rename_i h
    have h : (inB left 0 6 && inB right 0 6) = true := by simpa using h
    split
    · constructor
      · intro h; cases h
      · intro h; omega
    · rw [firstErr_iff]
      constructor
      · intro h'; exact ⟨h, by omega, fun p hp => (hm p).1 (h' p hp)⟩
      · intro h' p hp; exact (hm p).2 (h'.2.2 p hp)
theorem mchk_ok {left right : Int} {l : List (Int × Int)} (h : mchk left right l = 0) : MOk left right l := by
  rw [mchk_iff] at h
  refine ⟨by omega, by omega, by omega, by omega, h.2.1, fun p hp => ⟨(h.2.2 p hp).1.1, (h.2.2 p hp).2.1⟩, fun p hp => ?_⟩
  obtain ⟨q, hq, rfl⟩ := List.mem_map.1 hp
  have := h.2.2 q hq
  simp (implicitDefEqProofs := false) (dsimp := false) only [natP]; omega
theorem MOk.pr {left right : Int} {l : List (Int × Int)} (h : MOk left right l) : left.toNat ≤ 8 ∧ right.toNat ≤ 8 ∧ (natL l).length < 2 ^ 62 ∧ Sides left.toNat right.toNat (natL l) := ⟨by have := h.lhi; omega, by have := h.rhi; omega, by rw [natL_len]; have := h.len; omega, h.sides⟩
def mostR (left right : Int) (l : List (Int × Int)) : Nat := if mchk left right l = 0 then mostK (kuhn left.toNat right.toNat (natL l)) else 0
def cntP (s : List Int) : Nat := s.countP fun x => decide (0 ≤ x)
theorem cntP_succ {s : List Int} {k : Nat} (h : k < s.length) : cntP (s.take (k + 1)) = cntP (s.take k) + if 0 ≤ s.getD k default then 1 else 0 := by
  unfold cntP
  rw [take_succ_getD h, List.countP_append]
  simp [List.countP_cons]
theorem cntP_most (s : List Int) : cntP s = mostK s := by
  unfold cntP mostK metR
  have e : s = (List.range s.length).map fun j => s.getD j default := by
    refine List.ext_getElem (by simp) fun i h1 h2 => ?_
    simp (implicitDefEqProofs := false) (dsimp := false) only [List.getElem_map, List.getElem_range]
    rw [List.getD_eq_getElem?_getD, List.getElem?_eq_getElem h1]; rfl
  conv => lhs; rw [e]
  rw [List.countP_map, List.countP_eq_length_filter]; rfl
theorem cntP_le (s : List Int) : cntP s ≤ s.length := List.countP_le_length
theorem most_spec (left right : Int) (l : List (Int × Int)) (hpre : l.length < 2 ^ 62) : FnD Tryd.prog 42 [I .i64 left, I .i64 right, .l (l.map lnD)] (.t [I .i64 (mostR left right l : Nat), erD (mchk left right l)]) := by
  refine FnD.go Tryd.func42 rfl rfl Tryd.results42 Tryd.ntmps42 ?_
  simp (implicitDefEqProofs := false) (dsimp := false) only [↓aw_seq, ↓aw_reg, ↓Qseq_n, ↓ops_nil, ↓ops_cons, ↓eval_tmp, ↓eval_int, ↓eval_func, ↓put_some, ↓op_move, ↓op_assign, ↓op_call, isD_d, ↓fnK_f, ↓call_H, ↓callK_H, ↓allT_nil, ↓allT_cons, ↓td_d, List.getD_cons_zero, List.getD_cons_succ, List.set_cons_zero, List.set_cons_succ, List.cons_append, List.nil_append, List.append_nil, List.map_cons, List.map_nil, List.length_cons, List.length_nil, List.all_cons, List.all_nil, Bool.and_self, Nat.reduceAdd, Nat.reduceSub, Nat.reduceMul, Nat.zero_add, List.replicate, evK_go, reduceIte, Nat.reduceEqDiff, Nat.reduceLT, and_self, Int.zero_add]
  simp (implicitDefEqProofs := false) (dsimp := false) only [mcheck_call, eval_nilI, ↓er_neq, er_flat, ↓cdK_not, ↓aw_cond, ↓aw_seq, ↓aw_reg, ↓Qseq_n, ↓ops_nil, ↓ops_cons, ↓eval_tmp, ↓put_some, ↓bK_b, ↓op_move, ↓op_assign, ↓op_bin, List.getD_cons_zero, List.getD_cons_succ, List.set_cons_zero, List.set_cons_succ, Bool.true_and, Bool.or_true, Nat.reduceAdd, Nat.reduceSub, Nat.reduceMul, evK_go, reduceIte, Nat.reduceEqDiff, Nat.reduceLT, true_and]
  refine OrH.l (OrH.l ⟨hpre, ?_⟩)
  refine cdK_dec (fun hc => ?_) (fun hc => ?_)
  rotate_left
  · simp (implicitDefEqProofs := false) (dsimp := false) only [mostR, hc, ↓aw_seq, ↓aw_ret, ↓aw_reg, ↓Qseq_n, ↓Qseq_r, ↓Qret_r, ↓ops_nil, ↓ops_cons, ↓eval_tmp, ↓eval_int, ↓put_some, ↓op_move, ↓op_assign, ↓td_d, ↓ret_2, List.getD_cons_zero, List.getD_cons_succ, List.set_cons_zero, List.set_cons_succ, Nat.reduceAdd, Nat.reduceSub, Nat.reduceMul, evK_go, reduceIte, decide_false, Bool.not_false, Nat.reduceEqDiff, Nat.reduceLT, Int.cast_ofNat_Int]
  have ok := mchk_ok hc
  rw [show mostR left right l = mostK (kuhn left.toNat right.toNat (natL l)) from if_pos hc, lnD_nat ok.rng, hc]
  have hpr := ok.pr
  have el := ok.l0
  have er := ok.r0
  have hkl : (kuhn left.toNat right.toNat (natL l)).length = right.toNat := (kuhn_end ok.sides (by have := ok.rhi; omega)).ok.len
  have hr8 := ok.rhi
  clear ok hc hpre
  generalize left.toNat = a at *
  generalize right.toNat = b at *
  subst el er
  generalize natL l = L at *
  simp (implicitDefEqProofs := false) (dsimp := false) only [pairs_callD, hpr, ↓aw_seq, ↓aw_block, ↓aw_skip, ↓aw_loop, ↓aw_reg, ↓Qseq_n, ↓ops_nil, ↓ops_cons, ↓eval_tmp, ↓eval_int, ↓eval_func, ↓put_some, ↓lenK_l, ↓op_move, ↓op_assign, ↓op_len, ↓op_call, isD_d, ↓fnK_f, ↓call_H, ↓callK_H, ↓allT_nil, ↓allT_cons, ↓td_d, ↓sl24, List.getD_cons_zero, List.getD_cons_succ, List.set_cons_zero, List.set_cons_succ, List.append_nil, List.length_map, List.all_cons, List.all_nil, Bool.true_and, Bool.and_self, Bool.true_or, Nat.reduceAdd, Nat.reduceSub, Nat.reduceMul, evK_go, reduceIte, decide_true, Bool.not_true, Nat.reduceEqDiff, Nat.reduceLT, and_self, true_and]
  (repeat refine OrH.l ?_)
  rw [← cntP_most]
  generalize kuhn a b L = H at hkl ⊢
  simp (implicitDefEqProofs := false) (dsimp := false) only [hkl]
  refine loopW (fun k : Nat => { tm := slots 34 [(9, .d (I .i64 (cntP (H.take k) : Nat))), (22, .d (.l (H.map (I .i64)))), (23, .d (I .i64 (b : Int))), (24, .d (I .i64 k))], bx := [], rw := [] })
    (fun k => k ≤ b) (fun k => b - k) 0 (by simp) ?_ ?_
  · refine Wkn.of [] [] ?_; simp (implicitDefEqProofs := false) (dsimp := false) only [cntP, List.countP_nil, List.set_cons_zero, List.set_cons_succ, Bool.and_self, Nat.reduceAdd, Nat.reduceSub, Nat.reduceMul, List.replicate, evK_go, reduceIte, Nat.reduceEqDiff, Nat.reduceLT, and_self, List.take_zero, List.foldl_cons, List.foldl_nil, Int.cast_ofNat_Int, slots, wkL_nil, wkL_cons, wkB_nil, wkR_nil, wkV_j, wkV_d, frz_d, reduceCtorEq]
  · intro k hk
    simp (implicitDefEqProofs := false) (dsimp := false) only [slots, ↓aw_cond, ↓aw_seq, ↓aw_reg, ↓Qseq_n, ↓ops_nil, ↓ops_cons, ↓eval_tmp, ↓put_some, ↓bK_b, ↓binE_i, ↓bi_lss, ↓op_bin, List.getD_cons_zero, List.getD_cons_succ, List.set_cons_zero, List.set_cons_succ, Nat.reduceAdd, Nat.reduceSub, Nat.reduceMul, List.replicate, evK_go, reduceIte, Nat.reduceEqDiff, Nat.reduceLT, List.foldl_cons, List.foldl_nil, Int.ofNat_lt]
    have hm := cntP_le (H.take k)
    rw [List.length_take] at hm
    refine cdK_dec (fun h => ?_) (fun h => ?_)
    · have hkH : k < H.length := by omega
      have hs := cntP_succ hkH
      simp (implicitDefEqProofs := false) (dsimp := false) only [hkH, ↓atK_H, ↓atH_map, ↓aw_cond, ↓aw_seq, ↓aw_block, ↓aw_skip, ↓aw_reg, ↓Qseq_n, ↓ops_nil, ↓ops_cons, ↓eval_tmp, ↓eval_int, ↓put_some, ↓bK_b, ↓iK_i, ↓binE_i, ↓bi_geq, ↓ldK_q, ↓iaK_l, ↓op_move, ↓op_assign, ↓op_load, ↓op_bin, ↓op_ia, ↓cells_c, ↓hd_cons, ↓ty3, ↓sl24, List.getD_cons_zero, List.getD_cons_succ, List.set_cons_zero, List.set_cons_succ, List.length_cons, List.length_nil, Bool.true_and, Nat.reduceAdd, Nat.reduceSub, Nat.reduceMul, Nat.zero_add, Int.toNat_natCast, evK_go, reduceIte, Nat.reduceEqDiff, Nat.reduceLT, true_and, Int.zero_add, Int.natCast_nonneg]
      refine cdK_dec (fun h1 => ?_) (fun h1 => ?_)
      · rw [if_pos h1] at hs
        simp (implicitDefEqProofs := false) (dsimp := false) only [↓aw_reg, ↓Qseq_n, ↓Qblk_n, ↓ops_nil, ↓ops_cons, ↓eval_tmp, ↓eval_int, ↓put_some, ↓binE_i, ↓bi_add, ↓in_i64, ↓op_move, ↓op_assign, ↓op_bin, List.getD_cons_zero, List.getD_cons_succ, List.set_cons_zero, List.set_cons_succ, Nat.reduceAdd, Nat.reduceSub, Nat.reduceMul, evK_go, reduceIte, Nat.reduceEqDiff, Nat.reduceLT]
        refine ⟨by omega, by omega, k + 1, by omega, by omega, ?_⟩
        refine Wkn.of [] [] ?_; simp (implicitDefEqProofs := false) (dsimp := false) only [hs, List.set_cons_zero, List.set_cons_succ, Bool.and_self, Nat.reduceAdd, Nat.reduceSub, Nat.reduceMul, List.replicate, evK_go, reduceIte, Nat.reduceEqDiff, Nat.reduceLT, and_self, List.foldl_cons, List.foldl_nil, Int.cast_ofNat_Int, Int.natCast_add, slots, wkL_nil, wkL_cons, wkB_nil, wkR_nil, wkV_j, wkV_d, frz_d, reduceCtorEq]
      · rw [if_neg h1] at hs
        simp (implicitDefEqProofs := false) (dsimp := false) only [↓aw_skip, ↓aw_reg, ↓Qseq_n, ↓Qblk_n, ↓ops_nil, ↓ops_cons, ↓eval_tmp, ↓eval_int, ↓put_some, ↓binE_i, ↓bi_add, ↓in_i64, ↓op_move, ↓op_bin, List.getD_cons_zero, List.getD_cons_succ, List.set_cons_zero, List.set_cons_succ, Nat.reduceAdd, Nat.reduceSub, Nat.reduceMul, evK_go, reduceIte, Nat.reduceEqDiff, Nat.reduceLT]
        refine ⟨by omega, k + 1, by omega, by omega, ?_⟩
        refine Wkn.of [] [] ?_; simp (implicitDefEqProofs := false) (dsimp := false) only [hs, List.set_cons_zero, List.set_cons_succ, Bool.and_self, Nat.reduceAdd, Nat.reduceSub, Nat.reduceMul, Nat.add_zero, List.replicate, evK_go, reduceIte, Nat.reduceEqDiff, Nat.reduceLT, and_self, List.foldl_cons, List.foldl_nil, Int.cast_ofNat_Int, Int.natCast_add, slots, wkL_nil, wkL_cons, wkB_nil, wkR_nil, wkV_j, wkV_d, frz_d, reduceCtorEq]
    · obtain rfl : k = b := by omega
      rw [List.take_of_length_le (by omega)]
      simp (implicitDefEqProofs := false) (dsimp := false) only [erD_0, eval_nilI, ↓aw_seq, ↓aw_exit, ↓aw_ret, ↓aw_reg, ↓Qseq_n, ↓Qseq_x, ↓Qblk_x, ↓Qret_r, ↓ops_nil, ↓ops_cons, ↓eval_tmp, ↓put_some, ↓op_move, ↓op_assign, ↓td_d, ↓ret_2, List.getD_cons_zero, List.getD_cons_succ, List.set_cons_zero, List.set_cons_succ, Nat.reduceAdd, Nat.reduceSub, Nat.reduceMul, evK_go, reduceIte, decide_false, Nat.reduceEqDiff, Nat.reduceLT, Nat.lt_irrefl]
theorem most_call (left right : Int) (l : List (Int × Int)) (pure : Bool) (σ : St) (dst : Option Tmp) (K : St → Prop) : CallH Tryd.prog 42 [I .i64 left, I .i64 right, .l (l.map lnD)] pure σ dst (.mk : Hid K) = OrH ((l.length < 2 ^ 62) ∧ (pure || D.flat (.t [I .i64 (mostR left right l : Nat), erD (mchk left right l)])) = true ∧ evK (σ.put dst (.d (.t [I .i64 (mostR left right l : Nat), erD (mchk left right l)]))) (.mk : Hid K)) (.mk : Hid (CallH Tryd.prog 42 [I .i64 left, I .i64 right, .l (l.map lnD)] pure σ dst (.mk : Hid K))) := CallH.eq (most_spec left right l) pure σ dst K
def covA (left right : Int) (l : List (Int × Int)) : List Nat := if mchk left right l = 0 then coverA left.toNat right.toNat (natL l) else []
def covB (left right : Int) (l : List (Int × Int)) : List Nat := if mchk left right l = 0 then coverB left.toNat right.toNat (natL l) else []
def met0K (left : Nat) (has : List Int) (k : Nat) : Nat := (has.take k).foldl (fun m h => if h < 0 then m else dif m (2 ^ h.toNat)) (2 ^ left - 1)
structure RC where
  met : Nat
  over : Nat
  pre : List Nat
  q : List Nat
structure RM where
  m : Nat
  s : CS
  pre : List Nat
def mfL : List (Int × Int) := [(0, 0), (1, 0)]
end Go.Proofs

namespace Go.Proofs
open Go.Aw
set_option linter.unusedSimpArgs false
set_option maxRecDepth 10000
theorem t_flat (n e : Int) : D.flat (.t [I .i64 n, erD e]) = true := by unfold erD; split <;> rfl
theorem most_mn {left right : Int} {l : List (Int × Int)} (h : mchk left right l = 0) : MN (natL l) (mostR left right l) := by
  have ok := mchk_ok h
  rw [show mostR left right l = mostK (kuhn left.toNat right.toNat (natL l)) from if_pos h]
  exact most_MN ok.sides (by have := ok.lhi; omega) (by have := ok.rhi; omega)
theorem most_le {left right : Int} {l : List (Int × Int)} (h : mchk left right l = 0) : mostR left right l ≤ left.toNat ∧ mostR left right l ≤ right.toNat := by
  have ok := mchk_ok h
  obtain ⟨⟨M, h1, h2⟩, _⟩ := most_mn h
  have a := pig (M := List.range left.toNat) h1.fst (fun x hx => by
    obtain ⟨p, hp, rfl⟩ := List.mem_map.1 hx
    simpa using (ok.sides _ (h1.sub p hp)).1)
  have b := pig (M := List.range right.toNat) h1.snd (fun x hx => by
    obtain ⟨p, hp, rfl⟩ := List.mem_map.1 hx
    simpa using (ok.sides _ (h1.sub p hp)).2)
  simp (implicitDefEqProofs := false) (dsimp := false) only [List.length_map, List.length_range] at a b
  omega
end Go.Proofs

namespace Go.Proofs
open Go.Aw
set_option linter.unusedSimpArgs false
set_option maxRecDepth 10000
theorem deepR_len {n : Int} {l : List (Int × Int)} (h : topoE n l = 0) : (deepR n l).length = n.toNat ∧ 1 ≤ n.toNat ∧ n.toNat ≤ 8 ∧ (∀ i, (deepR n l).getD i default ≤ 1000) := by
  obtain ⟨hchk, o, ho⟩ := topoE_zero h
  have ok := chk_ok hchk
  have ht : topoL n l = o := by unfold topoL; rw [if_pos hchk, ho]; rfl
  have hTI := topo_some (by have := ok.hi; omega) ok.good ho
  have hs := deep_spec (by have := ok.hi; omega) ok.good hTI
  rw [show deepR n l = deepS n.toNat (natL l) (topoL n l) from if_pos h, ht]
  refine ⟨hs.1, ok.lo, ok.hi, fun i => ?_⟩
  rcases Nat.lt_or_ge i n.toNat with hi | hi
  · have := deep_lt ok.good hTI hs.2 hi
    have := ok.hi
    omega
  · rw [List.getD_eq_getElem?_getD, List.getElem?_eq_none (by rw [hs.1]; exact hi)]
    exact Nat.zero_le _
def longR (n : Int) (l : List (Int × Int)) : Nat := if topoE n l = 0 then maxN (deepR n l) + 1 else 0
theorem longest_spec (n : Int) (l : List (Int × Int)) (hpre : l.length < 2 ^ 62) : FnD Tryd.prog 74 [I .i64 n, .l (l.map lnD)] (.t [I .i64 (longR n l : Nat), erD (topoE n l)]) := by
  refine FnD.go Tryd.func74 rfl rfl Tryd.results74 Tryd.ntmps74 ?_
  simp (implicitDefEqProofs := false) (dsimp := false) only [↓aw_seq, ↓aw_reg, ↓Qseq_n, ↓ops_nil, ↓ops_cons, ↓eval_tmp, ↓eval_int, ↓eval_func, ↓put_some, ↓op_move, ↓op_assign, ↓op_call, isD_d, ↓fnK_f, ↓call_H, ↓callK_H, ↓allT_nil, ↓allT_cons, ↓td_d, List.getD_cons_zero, List.getD_cons_succ, List.set_cons_zero, List.set_cons_succ, List.cons_append, List.nil_append, List.append_nil, List.map_cons, List.map_nil, List.length_cons, List.length_nil, List.all_cons, List.all_nil, Bool.and_self, Nat.reduceAdd, Nat.reduceSub, Nat.reduceMul, Nat.zero_add, List.replicate, evK_go, reduceIte, Nat.reduceEqDiff, Nat.reduceLT, and_self, Int.zero_add]
  simp (implicitDefEqProofs := false) (dsimp := false) only [deepw_call, hpre, eval_nilI, ↓er_neq, ↓cdK_not, ↓nthK_H, ↓nthH_zero, ↓nthH_succ, ↓aw_cond, ↓aw_seq, ↓aw_reg, ↓Qseq_n, ↓ops_nil, ↓ops_cons, ↓eval_tmp, ↓put_some, ↓bK_b, ↓tK_t, ↓op_move, ↓op_assign, ↓op_bin, ↓op_extract, List.getD_cons_zero, List.getD_cons_succ, List.set_cons_zero, List.set_cons_succ, Bool.true_and, Bool.true_or, Nat.reduceAdd, Nat.reduceSub, Nat.reduceMul, evK_go, reduceIte, Nat.reduceEqDiff, Nat.reduceLT, true_and]
  (repeat refine OrH.l ?_)
  refine cdK_dec (fun hc => ?_) (fun hc => ?_)
  rotate_left
  · have e : longR n l = 0 := if_neg hc
    simp (implicitDefEqProofs := false) (dsimp := false) only [e, hc, ↓aw_seq, ↓aw_ret, ↓aw_reg, ↓Qseq_n, ↓Qseq_r, ↓Qret_r, ↓ops_nil, ↓ops_cons, ↓eval_tmp, ↓eval_int, ↓put_some, ↓op_move, ↓op_assign, ↓td_d, ↓ret_2, List.getD_cons_zero, List.getD_cons_succ, List.set_cons_zero, List.set_cons_succ, Nat.reduceAdd, Nat.reduceSub, Nat.reduceMul, evK_go, reduceIte, decide_false, Bool.not_false, Nat.reduceEqDiff, Nat.reduceLT, Int.cast_ofNat_Int]
  obtain ⟨h1, h2, h3, h4⟩ := deepR_len hc
  have hp : 0 < (deepR n l).length ∧ (deepR n l).length < 2 ^ 62 := by omega
  obtain ⟨h5, h6⟩ := maxN_spec hp.1
  have h7 : maxN (deepR n l) ≤ 1000 := by
    obtain ⟨i, hi, e⟩ := List.mem_iff_getElem.1 h5
    have := h4 i
    rw [List.getD_eq_getElem?_getD, List.getElem?_eq_getElem hi, Option.getD_some, e] at this
    exact this
  rw [show longR n l = maxN (deepR n l) + 1 from if_pos hc, hc]
  simp (implicitDefEqProofs := false) (dsimp := false) only [slmax_call, hp, eval_nilI, ↓aw_seq, ↓aw_ret, ↓aw_skip, ↓aw_reg, ↓Qseq_n, ↓Qret_r, ↓ops_nil, ↓ops_cons, ↓eval_tmp, ↓eval_int, ↓eval_func, ↓put_some, ↓binE_i, ↓bi_add, ↓in_i64, ↓op_move, ↓op_assign, ↓op_bin, ↓op_call, isD_d, ↓fnK_f, ↓call_H, ↓callK_H, ↓allT_nil, ↓allT_cons, ↓td_d, ↓ret_2, List.getD_cons_zero, List.getD_cons_succ, List.set_cons_zero, List.set_cons_succ, List.append_nil, List.all_cons, List.all_nil, Bool.true_and, Bool.and_self, Bool.true_or, Nat.reduceAdd, Nat.reduceSub, Nat.reduceMul, evK_go, reduceIte, decide_true, Bool.not_true, Nat.reduceEqDiff, Nat.reduceLT, and_self, true_and, Int.cast_ofNat_Int, Int.natCast_add]
  (repeat refine OrH.l ?_)
  exact ⟨by omega, by rw [erD_0]⟩
theorem longest_call (n : Int) (l : List (Int × Int)) (pure : Bool) (σ : St) (dst : Option Tmp) (K : St → Prop) : CallH Tryd.prog 74 [I .i64 n, .l (l.map lnD)] pure σ dst (.mk : Hid K) = OrH ((l.length < 2 ^ 62) ∧ (pure || D.flat (.t [I .i64 (longR n l : Nat), erD (topoE n l)])) = true ∧ evK (σ.put dst (.d (.t [I .i64 (longR n l : Nat), erD (topoE n l)]))) (.mk : Hid K)) (.mk : Hid (CallH Tryd.prog 74 [I .i64 n, .l (l.map lnD)] pure σ dst (.mk : Hid K))) := CallH.eq (longest_spec n l) pure σ dst K
/-- Where ways go, as lines. -/
def prI (M : List (List Int)) (k : Nat) : List (Int × Int) := (List.range k).flatMap fun a => (M.getD a default).map fun b => ((a : Int), b)
def prJ (M : List (List Int)) (k j : Nat) : List (Int × Int) := prI M k ++ ((M.getD k default).take j).map fun b => ((k : Int), b)
theorem prI_succ (M : List (List Int)) (k : Nat) : prI M (k + 1) = prJ M k (M.getD k default).length := by
  unfold prI prJ
  rw [List.range_succ, List.flatMap_append, List.take_length]
  simp [prI]
theorem prJ_zero (M : List (List Int)) (k : Nat) : prJ M k 0 = prI M k := by simp [prJ]
theorem prJ_succ (M : List (List Int)) {k j : Nat} (h : j < (M.getD k default).length) : prJ M k (j + 1) = prJ M k j ++ [((k : Int), (M.getD k default).getD j default)] := by
  unfold prJ
  rw [take_succ_getD h]
  simp
theorem prI_len {M : List (List Int)} (h : ∀ i : Nat, (M.getD i default).length ≤ 64) (k : Nat) : (prI M k).length ≤ 64 * k := by
  induction k with
  | zero => simp [prI]
  | succ k ih =>
    rw [prI_succ]
    unfold prJ
    rw [List.length_append, List.length_map, List.length_take]
    have := h k
    omega
def warR (n : Nat) (l : List (Nat × Nat)) : List (Nat × Nat) := (List.range n).flatMap fun i => (pts ((war n l).getD i default)).map fun j => (i, j)
theorem warR_nodup (n : Nat) (l : List (Nat × Nat)) : (warR n l).Nodup := by
  unfold warR
  rw [List.Nodup, List.pairwise_flatMap]
  refine ⟨fun i _ => ?_, ?_⟩
  · rw [List.pairwise_map]
    exact (pts_nodup _).imp fun h e => h (by simpa using e)
  · refine List.nodup_range.imp fun h p hp q hq e => ?_
    obtain ⟨x, _, rfl⟩ := List.mem_map.1 hp
    obtain ⟨y, _, e'⟩ := List.mem_map.1 hq
    rw [← e'] at e
    cases e
    exact h rfl
theorem warR_mem {n : Nat} {l : List (Nat × Nat)} (hn : n ≤ 64) (hg : Good n l) (a b : Nat) : (a, b) ∈ warR n l ↔ Path1 l a b := by
  unfold warR
  rw [List.mem_flatMap]
  constructor
  · rintro ⟨i, _, h⟩
    obtain ⟨j, hj, e⟩ := List.mem_map.1 h
    cases e
    exact (war_bit hg _ _).1 ((pts_mem _ _).1 hj).2
  · intro h
    have := h.lt hg
    exact ⟨a, by simpa using this.1, List.mem_map.2 ⟨b, (pts_mem _ _).2 ⟨by omega, (war_bit hg _ _).2 h⟩, rfl⟩⟩
theorem warR_len {n : Nat} {l : List (Nat × Nat)} (hn : n ≤ 64) (hg : Good n l) (hr : ∀ i, ¬ Path1 l i i) : 2 * (warR n l).length ≤ n * n := by
  have hnd : (warR n l ++ (warR n l).map flip).Nodup := by
    rw [List.nodup_append]
    refine ⟨warR_nodup n l, ?_, fun p hp q hq e => ?_⟩
    · have := warR_nodup n l
      unfold List.Nodup at this ⊢
      rw [List.pairwise_map]
      exact this.imp fun {a b} h e => h (by
        have e1 := congrArg Prod.fst e
        have e2 := congrArg Prod.snd e
        simp (implicitDefEqProofs := false) (dsimp := false) only [flip] at e1 e2
        exact Prod.ext e2 e1)
    · subst e
      obtain ⟨a, b⟩ := p
      rw [flip_mem, warR_mem hn hg] at hq
      rw [warR_mem hn hg] at hp
      exact hr a (hp.trans hq.path)
  have := pig (M := (List.range n).flatMap fun i => (List.range n).map fun j => (i, j)) hnd (fun p hp => by
    obtain ⟨a, b⟩ := p
    have hlt : a < n ∧ b < n := by
      rcases List.mem_append.1 hp with h | h
      · exact ((warR_mem hn hg a b).1 h).lt hg
      · rw [flip_mem, warR_mem hn hg] at h
        exact (h.lt hg).symm
    exact List.mem_flatMap.2 ⟨a, by simpa using hlt.1, List.mem_map.2 ⟨b, by simpa using hlt.2, rfl⟩⟩)
  have e : ((List.range n).flatMap fun i => (List.range n).map fun j => (i, j)).length = n * n := by
    rw [List.length_flatMap]
    simp [List.map_const']
  rw [e, List.length_append, List.length_map] at this
  omega
theorem prI_nat {n : Int} {l : List (Int × Int)} (hc : chk n l = 0) : natL (prI (closeAll n l) n.toNat) = warR n.toNat (natL l) := by
  have e : closeAll n l = (war n.toNat (natL l)).map ptsI := if_pos hc
  unfold natL prI warR
  rw [e, List.map_flatMap]
  congr 1
  funext a
  rw [mapP_get, List.map_map]
  unfold ptsI
  rw [List.map_map]
  rfl
theorem topo_noring {n : Int} {l : List (Int × Int)} (h : topoE n l = 0) (i : Nat) : ¬ Path1 (natL l) i i := fun hp => by
  obtain ⟨hchk, o, ho⟩ := topoE_zero h
  have ok := chk_ok hchk
  have := (topo_some (by have := ok.hi; omega) ok.good ho).path ok.good hp
  omega
theorem prI_chk {n : Int} {l : List (Int × Int)} (h : topoE n l = 0) (h6 : n ≤ 6) : mchk n n (prI (closeAll n l) n.toNat) = 0 := by
  obtain ⟨hchk, o, ho⟩ := topoE_zero h
  have ok := chk_ok hchk
  have cw := closeW hchk
  have n0 := ok.n0
  rw [mchk_iff]
  refine ⟨⟨⟨by omega, h6⟩, by omega, h6⟩, ?_, fun p hp => ?_⟩
  · have h1 := warR_len (n := n.toNat) (l := natL l) (by have := ok.hi; omega) ok.good (topo_noring h)
    have h2 := congrArg List.length (prI_nat hchk)
    rw [natL_len] at h2
    have h3 : n.toNat * n.toNat ≤ 6 * 6 := Nat.mul_le_mul (by omega) (by omega)
    omega
  · unfold prI at hp
    obtain ⟨a, ha, h1⟩ := List.mem_flatMap.1 hp
    obtain ⟨b, hb, rfl⟩ := List.mem_map.1 h1
    obtain ⟨c, rfl, hc, _⟩ := cw.pt a b hb
    have ha : a < n.toNat := by simpa using ha
    simp only
    omega
def chainE (n : Int) (l : List (Int × Int)) : Int := if topoE n l = 0 then (if 6 < n then 4 else 0) else topoE n l
def rowsR (n : Int) (l : List (Int × Int)) : Int := if chainE n l = 0 then n - (mostR n n (prI (closeAll n l) n.toNat) : Nat) else 0
theorem rows_spec (n : Int) (l : List (Int × Int)) (hpre : l.length < 2 ^ 62) : FnD Tryd.prog 77 [I .i64 n, .l (l.map lnD)] (.t [I .i64 (rowsR n l), erD (chainE n l)]) := by
  refine FnD.go Tryd.func77 rfl rfl Tryd.results77 Tryd.ntmps77 ?_
  simp (implicitDefEqProofs := false) (dsimp := false) only [↓aw_seq, ↓aw_reg, ↓Qseq_n, ↓ops_nil, ↓ops_cons, ↓eval_tmp, ↓eval_int, ↓eval_func, ↓put_some, ↓op_move, ↓op_assign, ↓op_call, isD_d, ↓fnK_f, ↓call_H, ↓callK_H, ↓allT_nil, ↓allT_cons, ↓td_d, List.getD_cons_zero, List.getD_cons_succ, List.set_cons_zero, List.set_cons_succ, List.cons_append, List.nil_append, List.append_nil, List.map_cons, List.map_nil, List.length_cons, List.length_nil, List.all_cons, List.all_nil, Bool.and_self, Nat.reduceAdd, Nat.reduceSub, Nat.reduceMul, Nat.zero_add, List.replicate, evK_go, reduceIte, Nat.reduceEqDiff, Nat.reduceLT, and_self, Int.zero_add]
  simp (implicitDefEqProofs := false) (dsimp := false) only [order_call, hpre, eval_nilI, ↓er_neq, ↓cdK_not, ↓nthK_H, ↓nthH_zero, ↓nthH_succ, ↓aw_cond, ↓aw_seq, ↓aw_reg, ↓Qseq_n, ↓ops_nil, ↓ops_cons, ↓eval_tmp, ↓put_some, ↓bK_b, ↓tK_t, ↓op_move, ↓op_assign, ↓op_bin, ↓op_extract, List.getD_cons_zero, List.getD_cons_succ, List.set_cons_zero, List.set_cons_succ, Bool.true_and, Bool.true_or, Nat.reduceAdd, Nat.reduceSub, Nat.reduceMul, evK_go, reduceIte, Nat.reduceEqDiff, Nat.reduceLT, true_and]
  (repeat refine OrH.l ?_)
  refine cdK_dec (fun hc => ?_) (fun hc => ?_)
  rotate_left
  · have e : chainE n l = topoE n l := if_neg hc
    have e2 : rowsR n l = 0 := if_neg (by rw [e]; exact hc)
    simp (implicitDefEqProofs := false) (dsimp := false) only [e, e2, hc, ↓aw_seq, ↓aw_ret, ↓aw_reg, ↓Qseq_n, ↓Qseq_r, ↓Qret_r, ↓ops_nil, ↓ops_cons, ↓eval_tmp, ↓eval_int, ↓put_some, ↓op_move, ↓op_assign, ↓td_d, ↓ret_2, List.getD_cons_zero, List.getD_cons_succ, List.set_cons_zero, List.set_cons_succ, Nat.reduceAdd, Nat.reduceSub, Nat.reduceMul, evK_go, reduceIte, decide_false, Bool.not_false, Nat.reduceEqDiff, Nat.reduceLT]
  obtain ⟨hchk, o, ho⟩ := topoE_zero hc
  simp (implicitDefEqProofs := false) (dsimp := false) only [↓aw_cond, ↓aw_seq, ↓aw_skip, ↓aw_reg, ↓Qseq_n, ↓ops_nil, ↓ops_cons, ↓eval_tmp, ↓eval_int, ↓put_some, ↓bK_b, ↓binE_i, ↓bi_gtr, ↓op_move, ↓op_bin, List.getD_cons_zero, List.getD_cons_succ, List.set_cons_zero, List.set_cons_succ, Nat.reduceAdd, Nat.reduceSub, Nat.reduceMul, evK_go, reduceIte, Nat.reduceEqDiff, Nat.reduceLT]
  refine cdK_dec (fun h6 => ?_) (fun h6 => ?_)
  · have e : chainE n l = 4 := by unfold chainE; rw [if_pos hc, if_pos (by omega)]
    have e2 : rowsR n l = 0 := if_neg (by rw [e]; decide)
    simp (implicitDefEqProofs := false) (dsimp := false) only [e, e2, nc108, erD_4, ↓aw_seq, ↓aw_ret, ↓aw_reg, ↓Qseq_n, ↓Qseq_r, ↓Qret_r, ↓ops_nil, ↓ops_cons, ↓eval_tmp, ↓eval_int, ↓put_some, ↓vK_c, ↓op_assign, ↓op_iface, ↓td_d, ↓ret_2, ↓nc108, List.getD_cons_zero, List.getD_cons_succ, List.set_cons_zero, List.set_cons_succ, Bool.and_self, Nat.reduceAdd, Nat.reduceSub, Nat.reduceMul, evK_go, reduceIte, Nat.reduceEqDiff, Nat.reduceLT, and_self]
  have e : chainE n l = 0 := by unfold chainE; rw [if_pos hc, if_neg (by omega)]
  rw [show rowsR n l = n - (mostR n n (prI (closeAll n l) n.toNat) : Nat) from if_pos e, e]
  have hmc := prI_chk hc (by omega)
  have cw := closeW hchk
  have hml := most_le hmc
  have ok := chk_ok hchk
  have n0 := ok.n0
  have h8 := ok.hi
  simp (implicitDefEqProofs := false) (dsimp := false) only [call_call, hpre, hchk, eval_nilI, ↓er_neq, ↓cdK_false, ↓nthK_H, ↓nthH_zero, ↓nthH_succ, ↓aw_cond, ↓aw_seq, ↓aw_block, ↓aw_skip, ↓aw_loop, ↓aw_reg, ↓Qseq_n, ↓ops_nil, ↓ops_cons, ↓eval_tmp, ↓eval_int, ↓eval_nil, ↓eval_func, ↓put_some, ↓bK_b, ↓lenK_l, ↓tK_t, ↓op_move, ↓op_assign, ↓op_bin, ↓op_extract, ↓op_len, ↓op_call, isD_d, ↓fnK_f, ↓call_H, ↓callK_H, ↓allT_nil, ↓allT_cons, ↓td_d, ↓sl69, List.getD_cons_zero, List.getD_cons_succ, List.set_cons_zero, List.set_cons_succ, List.append_nil, List.length_map, List.all_cons, List.all_nil, Bool.true_and, Bool.and_self, Bool.true_or, Nat.reduceAdd, Nat.reduceSub, Nat.reduceMul, evK_go, reduceIte, decide_true, Bool.not_true, Nat.reduceEqDiff, Nat.reduceLT, and_self, true_and]
  generalize closeAll n l = M at *
  generalize hm : n.toNat = m at *
  have hMl := cw.len
  have hMs := cw.sz
  simp (implicitDefEqProofs := false) (dsimp := false) only [hMl]
  (repeat refine OrH.l ?_)
  refine loopW (fun i : Nat => { tm := slots 71 [(0, .d (I .i64 n)), (10, .o 0 0 (prI M i).length), (37, .d (.l (M.map liD))), (38, .d (I .i64 (m : Int))), (39, .d (I .i64 i))], bx := [], rw := [some ⟨2, (prI M i).map lnD⟩] })
    (fun i => i ≤ m) (fun i => m - i) 0 (by simp) ?_ ?_
  · refine Wkn.of [] [none] ?_
    simp (implicitDefEqProofs := false) (dsimp := false) only [prI, List.range_zero, List.flatMap_nil, ↓row_xs, List.set_cons_zero, List.set_cons_succ, List.map_nil, List.length_nil, Bool.and_self, Nat.reduceAdd, Nat.reduceSub, Nat.reduceMul, List.replicate, evK_go, reduceIte, Nat.reduceEqDiff, Nat.reduceLT, and_self, List.foldl_cons, List.foldl_nil, Int.cast_ofNat_Int, slots, wkL_nil, wkL_cons, wkB_nil, wkR_nil, wkR_new, wkV_j, wkV_d, nlK_nl, wkV_o, frz_d, oK_zn, reduceCtorEq]
  · intro i hi
    have hil := prI_len hMs i
    have hsi := hMs i
    simp (implicitDefEqProofs := false) (dsimp := false) only [slots, ↓aw_cond, ↓aw_seq, ↓aw_reg, ↓Qseq_n, ↓ops_nil, ↓ops_cons, ↓eval_tmp, ↓put_some, ↓bK_b, ↓binE_i, ↓bi_lss, ↓op_bin, List.getD_cons_zero, List.getD_cons_succ, List.set_cons_zero, List.set_cons_succ, Nat.reduceAdd, Nat.reduceSub, Nat.reduceMul, List.replicate, evK_go, reduceIte, Nat.reduceEqDiff, Nat.reduceLT, List.foldl_cons, List.foldl_nil, Int.ofNat_lt]
    refine cdK_dec (fun h => ?_) (fun h => ?_)
    · have hiM : i < M.length := by omega
      simp (implicitDefEqProofs := false) (dsimp := false) only [h, hiM, liD, ↓atK_H, ↓atH_map, ↓aw_seq, ↓aw_block, ↓aw_skip, ↓aw_loop, ↓aw_reg, ↓Qseq_n, ↓ops_nil, ↓ops_cons, ↓eval_tmp, ↓eval_int, ↓put_some, ↓iK_i, ↓lenK_l, ↓ldK_q, ↓iaK_l, ↓op_move, ↓op_assign, ↓op_load, ↓op_ia, ↓op_len, ↓cells_l, ↓hd_cons, ↓ty24, ↓sl24, ↓sl69, List.getD_cons_zero, List.getD_cons_succ, List.set_cons_zero, List.set_cons_succ, List.length_cons, List.length_nil, List.length_map, Bool.true_and, Nat.reduceAdd, Nat.reduceSub, Nat.reduceMul, Nat.zero_add, Int.toNat_natCast, evK_go, reduceIte, decide_true, Nat.reduceEqDiff, Nat.reduceLT, true_and, Int.zero_add, Int.natCast_nonneg]
      refine loopW (fun j : Nat => { tm := slots 71 [(0, .d (I .i64 n)), (10, .o 0 0 (prJ M i j).length), (11, .d (I .i64 (i : Int))), (37, .d (.l (M.map liD))), (38, .d (I .i64 (m : Int))), (39, .d (I .i64 i)), (44, .d (.l ((M.getD i default).map (I .i64)))), (45, .d (I .i64 (M.getD i default).length)), (46, .d (I .i64 j))], bx := [], rw := [some ⟨2, (prJ M i j).map lnD⟩] })
        (fun j => j ≤ (M.getD i default).length) (fun j => (M.getD i default).length - j) 0 (by simp) ?_ ?_
      · refine Wkn.of [] [some 0] ?_
        simp (implicitDefEqProofs := false) (dsimp := false) only [prJ_zero, List.getD_cons_zero, List.set_cons_zero, List.set_cons_succ, Bool.and_self, Nat.reduceAdd, Nat.reduceSub, Nat.reduceMul, List.replicate, evK_go, reduceIte, Nat.reduceEqDiff, Nat.reduceLT, and_self, List.foldl_cons, List.foldl_nil, Int.cast_ofNat_Int, slots, wkL_nil, wkL_cons, wkB_nil, wkR_nil, wkR_some, wkV_j, wkV_d, wkV_o, frz_d, oK_zs, reduceCtorEq]
      · intro j hj
        have hjl : (prJ M i j).length ≤ 64 * i + 64 := by
          unfold prJ
          rw [List.length_append, List.length_map, List.length_take]
          omega
        simp (implicitDefEqProofs := false) (dsimp := false) only [slots, ↓aw_cond, ↓aw_seq, ↓aw_reg, ↓Qseq_n, ↓ops_nil, ↓ops_cons, ↓eval_tmp, ↓put_some, ↓bK_b, ↓binE_i, ↓bi_lss, ↓op_bin, List.getD_cons_zero, List.getD_cons_succ, List.set_cons_zero, List.set_cons_succ, Nat.reduceAdd, Nat.reduceSub, Nat.reduceMul, List.replicate, evK_go, reduceIte, Nat.reduceEqDiff, Nat.reduceLT, List.foldl_cons, List.foldl_nil, Int.ofNat_lt]
        refine cdK_dec (fun h1 => ?_) (fun h1 => ?_)
        · have hs := prJ_succ M h1
          simp (implicitDefEqProofs := false) (dsimp := false) only [h1, ↓optK_some, ↓rwK_mk_, ↓atK_H, ↓atH_map, ↓aw_seq, ↓aw_block, ↓aw_skip, ↓aw_reg, ↓Qseq_n, ↓Qblk_n, ↓ops_nil, ↓ops_cons, ↓eval_tmp, ↓eval_int, ↓put_some, ↓iK_i, ↓dK_d, ↓binE_i, ↓bi_add, ↓in_i64, ↓ldK_q, ↓iaK_l, ↓op_move, ↓op_assign, ↓op_load, ↓op_bin, ↓op_ia, ↓op_build, ↓op_append, ↓allD_nil, ↓allD_cons, ↓app_mk, ↓row_sz, ↓row_xs, kill_d, kill_j, kill_o, ↓cells_c, ↓cells_s, ↓one_i, ↓ap_, ↓ap_o, ↓src_l, ↓bs_, ↓op_bs, ↓bsL_f, ↓stored_mk, ↓sl_nil, ↓sl_cons, ↓sT_move, ↓sT_assign, ↓sT_build, ↓sT_bs, ↓sT_call, ↓vsz_agg, ↓inO_1, ↓fm_nil, ↓fm_cons, ↓hd_cons, ↓ty3, ↓sl22, ↓sl24, ↓ty41, ↓zb41, ↓bd41, List.getD_cons_zero, List.getD_cons_succ, List.set_cons_zero, List.set_cons_succ, List.cons_append, List.nil_append, List.map_cons, List.map_nil, List.length_cons, List.length_nil, List.length_map, List.all_cons, List.all_nil, Bool.true_and, Bool.and_self, Bool.or_false, Nat.reduceAdd, Nat.reduceSub, Nat.reduceMul, Nat.zero_add, Int.toNat_natCast, evK_go, reduceIte, decide_true, Nat.reduceEqDiff, Nat.reduceLT, and_self, true_and, Int.zero_add, List.drop_zero, Int.natCast_nonneg]
          refine ⟨⟨rfl, by decide⟩, rfl, ⟨fun _ => trivial, by omega, by omega⟩, by omega, j + 1, by omega, by omega, ?_⟩
          refine Wkn.of [] [some 0] ?_
          simp (implicitDefEqProofs := false) (dsimp := false) only [hs, List.map_append, List.length_append, lnD, List.getD_cons_zero, List.set_cons_zero, List.set_cons_succ, List.map_cons, List.map_nil, List.length_cons, List.length_nil, Bool.and_self, Nat.reduceAdd, Nat.reduceSub, Nat.reduceMul, Nat.zero_add, List.replicate, evK_go, reduceIte, Nat.reduceEqDiff, Nat.reduceLT, and_self, Int.zero_add, List.foldl_cons, List.foldl_nil, Int.cast_ofNat_Int, Int.natCast_add, slots, wkL_nil, wkL_cons, wkB_nil, wkR_nil, wkR_some, wkV_j, wkV_d, wkV_o, frz_d, oK_zs, reduceCtorEq]
        · obtain rfl : j = (M.getD i default).length := by omega
          simp (implicitDefEqProofs := false) (dsimp := false) only [↓optK_some, ↓rwK_mk_, ↓aw_seq, ↓aw_exit, ↓aw_reg, ↓Qseq_n, ↓Qseq_x, ↓Qblk_n, ↓Qblk_x, ↓ops_nil, ↓ops_cons, ↓eval_tmp, ↓eval_int, ↓eval_func, ↓put_some, ↓binE_i, ↓bi_add, ↓in_i64, ↓op_move, ↓op_bin, ↓op_call, isD_d, isD_o, ↓fnK_f, ↓call_H, ↓callK_H, ↓allT_nil, ↓allT_cons, ↓td_d, ↓td_o, ↓row_xs, ↓take_map, List.getD_cons_zero, List.getD_cons_succ, List.set_cons_zero, List.set_cons_succ, List.append_nil, List.all_cons, List.all_nil, Bool.and_true, Bool.and_false, Nat.reduceAdd, Nat.reduceSub, Nat.reduceMul, evK_go, reduceIte, decide_false, Nat.reduceEqDiff, Nat.reduceLT, and_true, Nat.lt_irrefl, List.drop_zero]
          refine ⟨by omega, i + 1, by omega, by omega, ?_⟩
          refine Wkn.of [] [some 0] ?_
          simp (implicitDefEqProofs := false) (dsimp := false) only [prI_succ, List.getD_cons_zero, List.set_cons_zero, List.set_cons_succ, Bool.and_self, Nat.reduceAdd, Nat.reduceSub, Nat.reduceMul, List.replicate, evK_go, reduceIte, Nat.reduceEqDiff, Nat.reduceLT, and_self, List.foldl_cons, List.foldl_nil, Int.cast_ofNat_Int, Int.natCast_add, slots, wkL_nil, wkL_cons, wkB_nil, wkR_nil, wkR_some, wkV_j, wkV_d, wkV_o, frz_d, oK_zs, reduceCtorEq]
    · obtain rfl : i = m := by omega
      have e1 : List.take (prI M i).length (List.map lnD (prI M i)) = List.map lnD (prI M i) := List.take_of_length_le (by simp)
      have hp62 : (prI M i).length < 2 ^ 62 := by omega
      simp (implicitDefEqProofs := false) (dsimp := false) only [e1, most_call, hp62, hmc, t_flat, eval_nilI, ↓er_neq, ↓cdK_false, ↓optK_some, ↓rwK_mk_, ↓nthK_H, ↓nthH_zero, ↓nthH_succ, ↓aw_cond, ↓aw_seq, ↓aw_exit, ↓aw_ret, ↓aw_skip, ↓aw_reg, ↓Qseq_n, ↓Qseq_x, ↓Qblk_x, ↓Qret_r, ↓ops_nil, ↓ops_cons, ↓eval_tmp, ↓eval_func, ↓put_some, ↓bK_b, ↓tK_t, ↓binE_i, ↓bi_sub, ↓in_i64, ↓op_move, ↓op_assign, ↓op_bin, ↓op_extract, ↓op_call, isD_d, isD_o, ↓fnK_f, ↓call_H, ↓callK_H, ↓allT_nil, ↓allT_cons, ↓td_d, ↓td_o, ↓ret_2, ↓row_xs, List.getD_cons_zero, List.getD_cons_succ, List.set_cons_zero, List.set_cons_succ, List.append_nil, List.all_cons, List.all_nil, Bool.and_true, Bool.true_and, Bool.and_false, Bool.or_true, Nat.reduceAdd, Nat.reduceSub, Nat.reduceMul, evK_go, reduceIte, decide_true, decide_false, Bool.not_true, Nat.reduceEqDiff, Nat.reduceLT, true_and, and_true, Nat.lt_irrefl, List.drop_zero]
      (repeat refine OrH.l ?_)
      exact ⟨by omega, by rw [erD_0]⟩
theorem rows_call (n : Int) (l : List (Int × Int)) (pure : Bool) (σ : St) (dst : Option Tmp) (K : St → Prop) : CallH Tryd.prog 77 [I .i64 n, .l (l.map lnD)] pure σ dst (.mk : Hid K) = OrH ((l.length < 2 ^ 62) ∧ (pure || D.flat (.t [I .i64 (rowsR n l), erD (chainE n l)])) = true ∧ evK (σ.put dst (.d (.t [I .i64 (rowsR n l), erD (chainE n l)]))) (.mk : Hid K)) (.mk : Hid (CallH Tryd.prog 77 [I .i64 n, .l (l.map lnD)] pure σ dst (.mk : Hid K))) := CallH.eq (rows_spec n l) pure σ dst K
theorem widest_spec (n : Int) (l : List (Int × Int)) (hpre : l.length < 2 ^ 62) : FnD Tryd.prog 78 [I .i64 n, .l (l.map lnD)] (.t [I .i64 (rowsR n l), erD (chainE n l)]) := by
  refine FnD.go Tryd.func78 rfl rfl Tryd.results78 Tryd.ntmps78 ?_
  simp (implicitDefEqProofs := false) (dsimp := false) only [↓aw_seq, ↓aw_reg, ↓Qseq_n, ↓ops_nil, ↓ops_cons, ↓eval_tmp, ↓eval_int, ↓eval_func, ↓put_some, ↓op_move, ↓op_assign, ↓op_call, isD_d, ↓fnK_f, ↓call_H, ↓callK_H, ↓allT_nil, ↓allT_cons, ↓td_d, List.getD_cons_zero, List.getD_cons_succ, List.set_cons_zero, List.set_cons_succ, List.cons_append, List.nil_append, List.append_nil, List.map_cons, List.map_nil, List.length_cons, List.length_nil, List.all_cons, List.all_nil, Bool.and_self, Nat.reduceAdd, Nat.reduceSub, Nat.reduceMul, Nat.zero_add, List.replicate, evK_go, reduceIte, Nat.reduceEqDiff, Nat.reduceLT, and_self, Int.zero_add]
  simp (implicitDefEqProofs := false) (dsimp := false) only [rows_call, hpre, eval_nilI, ↓nthK_H, ↓nthH_zero, ↓nthH_succ, ↓aw_seq, ↓aw_ret, ↓aw_reg, ↓Qseq_n, ↓Qret_r, ↓ops_nil, ↓ops_cons, ↓eval_tmp, ↓put_some, ↓tK_t, ↓op_move, ↓op_assign, ↓op_extract, ↓orH_T, ↓td_d, ↓ret_2, List.getD_cons_zero, List.getD_cons_succ, List.set_cons_zero, List.set_cons_succ, Bool.and_self, Bool.true_or, Nat.reduceAdd, Nat.reduceSub, Nat.reduceMul, evK_go, reduceIte, Nat.reduceEqDiff, Nat.reduceLT, and_self]
  (repeat refine OrH.l ?_)
theorem widest_call (n : Int) (l : List (Int × Int)) (pure : Bool) (σ : St) (dst : Option Tmp) (K : St → Prop) : CallH Tryd.prog 78 [I .i64 n, .l (l.map lnD)] pure σ dst (.mk : Hid K) = OrH ((l.length < 2 ^ 62) ∧ (pure || D.flat (.t [I .i64 (rowsR n l), erD (chainE n l)])) = true ∧ evK (σ.put dst (.d (.t [I .i64 (rowsR n l), erD (chainE n l)]))) (.mk : Hid K)) (.mk : Hid (CallH Tryd.prog 78 [I .i64 n, .l (l.map lnD)] pure σ dst (.mk : Hid K))) := CallH.eq (widest_spec n l) pure σ dst K
def chfL : List (Int × Int) := [(0, 1), (0, 2)]
end Go.Proofs

namespace Go.Proofs
open Go.Aw
set_option linter.unusedSimpArgs false
set_option maxRecDepth 10000
theorem chainE_zero {n : Int} {l : List (Int × Int)} (h : chainE n l = 0) : topoE n l = 0 ∧ n ≤ 6 := by
  unfold chainE at h
  split at h
  · rename_i h1
    split at h
    · cases h
    · exact ⟨h1, by omega⟩
  · rename_i h1; exact absurd h h1
theorem rows_mn {n : Int} {l : List (Int × Int)} (h : chainE n l = 0) : ∃ m : Nat, MN (warR n.toNat (natL l)) m ∧ rowsR n l = n - m ∧ m ≤ n.toNat := by
  obtain ⟨ht, h6⟩ := chainE_zero h
  obtain ⟨hchk, _⟩ := topoE_zero ht
  have hm := most_mn (prI_chk ht h6)
  rw [prI_nat hchk] at hm
  exact ⟨_, hm, if_pos h, (most_le (prI_chk ht h6)).1⟩
end Go.Proofs

namespace Go.Proofs
open Go.Aw
set_option linter.unusedSimpArgs false
set_option maxRecDepth 10000
set_option maxHeartbeats 2000000
theorem atH_zero (a : D) (l : List D) (k : D → Prop) : atH (a :: l) 0 (.mk : Hid k) = evK a (.mk : Hid k) := by
  simp (implicitDefEqProofs := false) (dsimp := false) only [atH, atK, evK]
  simp
theorem rrows_spec (C : List (Nat × Nat)) (hC : C.length < 2 ^ 62) : ∀ (os ends : List Nat), ends.length + os.length ≤ 40 → FnD Tryd.prog 75 [.l (C.map lnN), .l (os.map nD), .l (ends.map nD)] (I .i64 (rowF C os ends : Nat)) := by
  intro os
  induction os with
  | nil =>
    intro ends hl
    refine FnD.go Tryd.func75 rfl rfl Tryd.results75 Tryd.ntmps75 ?_
    simp (implicitDefEqProofs := false) (dsimp := false) only [↓cdK_true, ↓aw_cond, ↓aw_seq, ↓aw_ret, ↓aw_reg, ↓Qseq_n, ↓Qseq_r, ↓Qret_r, ↓ops_nil, ↓ops_cons, ↓eval_tmp, ↓eval_int, ↓put_some, ↓bK_b, ↓lenK_l, ↓binE_i, ↓bi_eql, ↓op_move, ↓op_assign, ↓op_bin, ↓op_len, ↓td_d, ↓ret_1, ↓sl24, List.getD_cons_zero, List.getD_cons_succ, List.set_cons_zero, List.set_cons_succ, List.cons_append, List.nil_append, List.map_cons, List.map_nil, List.length_cons, List.length_nil, List.length_map, Nat.reduceAdd, Nat.reduceSub, Nat.reduceMul, Nat.zero_add, List.replicate, evK_go, reduceIte, decide_true, Nat.reduceEqDiff, Nat.reduceLT, Int.zero_add, Int.cast_ofNat_Int]
    simp (implicitDefEqProofs := false) (dsimp := false) only [rowF, Nat.reduceAdd, Nat.reduceSub, Nat.reduceMul, evK_go, reduceIte, Nat.reduceEqDiff, Nat.reduceLT]
    skip
  | cons x os ih =>
    intro ends hl
    rw [List.length_cons] at hl
    have hR : rowF C (x :: os) ends = rowJ C (rowF C os) x ends (rowF C os (ends ++ [x])) ends.length := rfl
    rw [hR]
    have hcA := CallQ.eq0 (ih (ends ++ [x]) (by simp; omega))
    have hcS := fun k => CallQ.eq0 (ih (ends.set k x) (by rw [List.length_set]; omega))
    have he40 : ends.length < 2 ^ 40 := by omega
    have he62 : ends.length < 2 ^ 62 := by omega
    have h0 : decide ((os.length : Int) + 1 = 0) = false := decide_eq_false (by omega)
    have h1 : 0 < os.length + 1 := by omega
    clear ih hR
    generalize hf : rowF C os = f at *
    refine FnD.go Tryd.func75 rfl rfl Tryd.results75 Tryd.ntmps75 ?_
    simp (implicitDefEqProofs := false) (dsimp := false) only [↓aw_cond, ↓aw_seq, ↓aw_reg, ↓Qseq_n, ↓ops_nil, ↓ops_cons, ↓eval_tmp, ↓eval_int, ↓put_some, ↓bK_b, ↓lenK_l, ↓binE_i, ↓bi_eql, ↓op_move, ↓op_assign, ↓op_bin, ↓op_len, ↓sl24, List.getD_cons_zero, List.getD_cons_succ, List.set_cons_zero, List.set_cons_succ, List.cons_append, List.nil_append, List.map_cons, List.map_nil, List.length_cons, List.length_nil, List.length_map, Nat.reduceAdd, Nat.reduceSub, Nat.reduceMul, Nat.zero_add, List.replicate, evK_go, reduceIte, Nat.reduceEqDiff, Nat.reduceLT, Int.zero_add, Int.cast_ofNat_Int, Int.natCast_add]
    simp (implicitDefEqProofs := false) (dsimp := false) only [h0, nD, ↓cdK_false, ↓atK_H, ↓aw_seq, ↓aw_skip, ↓aw_draw, ↓Qseq_n, ↓eval_tmp, ↓eval_int, ↓put_some, ↓iK_i, ↓ev_move, ↓ev_ia, ↓ev_slice, ↓optI_none, ↓optI_some, ↓iaK_l, ↓sliK_l, ↓draw_H, ↓h_cons, ↓ldH_n, ↓q_move, ↓q_ia, ↓q_slice, ↓il_move, ↓il_ia, ↓il_slice, ↓cells_c, ↓fm_cons, ↓ty3, ↓sl24, List.getD_cons_zero, List.getD_cons_succ, List.set_cons_zero, List.set_cons_succ, List.length_cons, List.length_nil, List.length_map, Bool.true_and, Nat.reduceAdd, Nat.reduceSub, Nat.reduceMul, Nat.zero_add, Int.toNat_zero, Int.toNat_one, evK_go, reduceIte, Nat.reduceEqDiff, Nat.reduceLT, true_and, Option.getD_none, Option.getD_some, Int.zero_add, Int.cast_ofNat_Int, Int.natCast_add]
    have hce : ∀ y ∈ List.map nD os, y.cells.length = 1 := fun y hy => by
      obtain ⟨z, _, rfl⟩ := List.mem_map.1 hy
      rfl
    have hdt : List.drop 1 (List.take ((os.length : Int) + 1).toNat (I .i64 (x : Int) :: List.map nD os)) = List.map nD os := by
      rw [show ((os.length : Int) + 1).toNat = os.length + 1 by omega, List.take_succ_cons, List.drop_succ_cons, List.drop_zero]
      exact List.take_of_length_le (by simp)
    refine OrH.l ⟨DrawH.of follows_mixed (by kernel_rfl), ⟨by decide, by omega, by omega⟩, hce, by decide, ?_⟩
    simp (implicitDefEqProofs := false) (dsimp := false) only [↓atH_zero, rbehind_callDQ, he40, hdt, hcA, ↓aw_seq, ↓aw_block, ↓aw_loop, ↓aw_reg, ↓Qseq_n, ↓ops_nil, ↓ops_cons, ↓eval_tmp, ↓eval_int, ↓eval_func, ↓put_some, ↓ev_assign, ↓ev_load, ↓ldK_q, ↓op_assign, isD_d, ↓fnK_f, ↓callKQ_H, ↓allT_nil, ↓allT_cons, ↓td_d, ↓h_nil, ↓h_cons, ↓ldH_n, ↓q_call, ↓q_assign, ↓q_load, ↓il_assign, ↓il_load, ↓il_call, ↓cells_c, ↓hd_cons, ↓ty3, List.getD_cons_zero, List.getD_cons_succ, List.set_cons_zero, List.set_cons_succ, List.append_nil, List.length_cons, List.length_nil, List.all_cons, List.all_nil, Bool.true_and, Bool.and_self, Bool.true_or, Nat.reduceAdd, Nat.reduceSub, Nat.reduceMul, Nat.zero_add, evK_go, reduceIte, Nat.reduceEqDiff, Nat.reduceLT, and_self, true_and, Int.zero_add]
    (repeat refine OrH.l ?_)
    refine loopW (fun k : Nat => { tm := slots 54 [(0, .d (.l (C.map lnN))), (1, .d (.l ((x :: os).map nD))), (2, .d (.l (ends.map nD))), (7, .d (I .i64 (rowJ C f x ends (f (ends ++ [x])) k : Nat))), (8, .d (I .i64 k))], bx := [], rw := [] })
      (fun k => k ≤ ends.length) (fun k => ends.length - k) 0 (by simp) ?_ ?_
    · refine Wkn.of [] [] ?_
      simp (implicitDefEqProofs := false) (dsimp := false) only [rowJ, nD, List.set_cons_zero, List.set_cons_succ, List.map_cons, Bool.and_self, Nat.reduceAdd, Nat.reduceSub, Nat.reduceMul, List.replicate, evK_go, reduceIte, Nat.reduceEqDiff, Nat.reduceLT, and_self, List.foldl_cons, List.foldl_nil, Int.cast_ofNat_Int, slots, wkL_nil, wkL_cons, wkB_nil, wkR_nil, wkV_j, wkV_d, frz_d, reduceCtorEq]
    · intro k hk
      have hJ : rowJ C f x ends (f (ends ++ [x])) (k + 1) = if (ends.getD k default, x) ∈ C ∧ f (ends.set k x) < rowJ C f x ends (f (ends ++ [x])) k then f (ends.set k x) else rowJ C f x ends (f (ends ++ [x])) k := rfl
      generalize rowJ C f x ends (f (ends ++ [x])) = J at hJ ⊢
      simp (implicitDefEqProofs := false) (dsimp := false) only [slots, nD, ↓aw_cond, ↓aw_seq, ↓aw_reg, ↓Qseq_n, ↓ops_nil, ↓ops_cons, ↓eval_tmp, ↓put_some, ↓bK_b, ↓lenK_l, ↓binE_i, ↓bi_lss, ↓op_move, ↓op_bin, ↓op_len, ↓sl24, List.getD_cons_zero, List.getD_cons_succ, List.set_cons_zero, List.set_cons_succ, List.map_cons, List.length_map, Nat.reduceAdd, Nat.reduceSub, Nat.reduceMul, List.replicate, evK_go, reduceIte, Nat.reduceEqDiff, Nat.reduceLT, List.foldl_cons, List.foldl_nil, Int.ofNat_lt]
      refine cdK_dec (fun h => ?_) (fun h => ?_)
      · have hke : k < ends.length := by omega
        have hset : ends.length < 2 ^ 40 ∧ k < ends.length := ⟨he40, hke⟩
        have hcSk := hcS k
        simp (implicitDefEqProofs := false) (dsimp := false) only [↓atH_zero, hke, nD, goesN_callQ, hC, ↓atK_H, ↓atH_map, ↓aw_cond, ↓aw_seq, ↓aw_block, ↓aw_skip, ↓aw_draw, ↓Qseq_n, ↓eval_tmp, ↓eval_int, ↓eval_func, ↓put_some, ↓bK_b, ↓iK_i, ↓ev_move, ↓ev_load, ↓ev_ia, ↓ldK_q, ↓iaK_l, isD_d, ↓fnK_f, ↓callKQ_H, ↓allT_nil, ↓allT_cons, ↓td_d, ↓draw_H, ↓h_nil, ↓h_cons, ↓ldH_n, ↓q_call, ↓q_move, ↓q_load, ↓q_ia, ↓il_move, ↓il_load, ↓il_ia, ↓il_call, ↓cells_c, ↓hd_cons, ↓ty3, ↓sl24, List.getD_cons_zero, List.getD_cons_succ, List.set_cons_zero, List.set_cons_succ, List.append_nil, List.map_cons, List.length_cons, List.length_nil, List.all_cons, List.all_nil, Bool.true_and, Bool.and_self, Bool.true_or, Nat.reduceAdd, Nat.reduceSub, Nat.reduceMul, Nat.zero_add, Int.toNat_natCast, Int.toNat_zero, evK_go, reduceIte, decide_true, Nat.reduceEqDiff, Nat.reduceLT, and_self, true_and, Int.zero_add, Int.natCast_nonneg]
        refine OrH.l ⟨DrawH.of follows_mixed (by kernel_rfl), ?_⟩
        (repeat (first | refine OrH.l ?_ | refine ⟨⟨rfl, by decide⟩, ?_⟩ | refine ⟨by decide, ?_⟩ | refine ⟨by omega, ?_⟩ | exact ⟨rfl, by decide⟩ | decide))
        refine cdK_dec (fun hg => ?_) (fun hg => ?_)
        · simp (implicitDefEqProofs := false) (dsimp := false) only [↓atH_zero, hke, rset_callDQ, hset, ↓atK_H, ↓aw_seq, ↓aw_draw, ↓eval_tmp, ↓eval_int, ↓eval_func, ↓put_some, ↓iK_i, ↓ev_move, ↓ev_load, ↓ev_ia, ↓ev_slice, ↓optI_none, ↓optI_some, ↓ldK_q, ↓iaK_l, ↓sliK_l, isD_d, ↓fnK_f, ↓callKQ_H, ↓allT_nil, ↓allT_cons, ↓td_d, ↓draw_H, ↓h_cons, ↓ldH_n, ↓q_call, ↓q_move, ↓q_load, ↓q_ia, ↓q_slice, ↓il_move, ↓il_load, ↓il_ia, ↓il_slice, ↓il_call, ↓cells_c, ↓fm_cons, ↓hd_cons, ↓ty3, ↓sl24, List.getD_cons_zero, List.getD_cons_succ, List.set_cons_zero, List.set_cons_succ, List.append_nil, List.length_cons, List.length_nil, List.length_map, List.all_cons, List.all_nil, Bool.true_and, Bool.and_self, Bool.true_or, Nat.reduceAdd, Nat.reduceSub, Nat.reduceMul, Nat.zero_add, Int.toNat_zero, Int.toNat_one, evK_go, reduceIte, Nat.reduceEqDiff, Nat.reduceLT, and_self, true_and, Option.getD_none, Option.getD_some, Int.zero_add, Int.cast_ofNat_Int, Int.natCast_add]
          refine OrH.l ⟨DrawH.of follows_mixed (by kernel_rfl), ⟨by decide, by omega, by omega⟩, hce, ?_⟩
          simp (implicitDefEqProofs := false) (dsimp := false) only [hdt, hcSk, ↓aw_cond, ↓aw_seq, ↓aw_reg, ↓Qseq_n, ↓ops_nil, ↓ops_cons, ↓eval_tmp, ↓put_some, ↓bK_b, ↓ev_assign, ↓binE_i, ↓bi_lss, ↓op_move, ↓op_bin, ↓h_nil, ↓h_cons, ↓ldH_n, ↓q_assign, ↓il_assign, List.getD_cons_zero, List.getD_cons_succ, List.set_cons_zero, List.set_cons_succ, Bool.true_and, Bool.true_or, Nat.reduceAdd, Nat.reduceSub, Nat.reduceMul, evK_go, reduceIte, Nat.reduceEqDiff, Nat.reduceLT, true_and, Int.ofNat_lt]
          refine ⟨by decide, ?_⟩
          (repeat refine OrH.l ?_)
          refine cdK_dec (fun h3 => ?_) (fun h3 => ?_)
          · rw [if_pos ⟨hg, by omega⟩] at hJ
            simp (implicitDefEqProofs := false) (dsimp := false) only [↓aw_reg, ↓Qseq_n, ↓Qblk_n, ↓ops_nil, ↓ops_cons, ↓eval_tmp, ↓eval_int, ↓put_some, ↓binE_i, ↓bi_add, ↓in_i64, ↓op_move, ↓op_assign, ↓op_bin, List.getD_cons_zero, List.getD_cons_succ, List.set_cons_zero, List.set_cons_succ, Nat.reduceAdd, Nat.reduceSub, Nat.reduceMul, evK_go, reduceIte, Nat.reduceEqDiff, Nat.reduceLT]
            refine ⟨by omega, k + 1, by omega, by omega, ?_⟩
            refine Wkn.of [] [] ?_
            simp (implicitDefEqProofs := false) (dsimp := false) only [hJ, List.set_cons_zero, List.set_cons_succ, Bool.and_self, Nat.reduceAdd, Nat.reduceSub, Nat.reduceMul, List.replicate, evK_go, reduceIte, Nat.reduceEqDiff, Nat.reduceLT, and_self, List.foldl_cons, List.foldl_nil, Int.cast_ofNat_Int, Int.natCast_add, slots, wkL_nil, wkL_cons, wkB_nil, wkR_nil, wkV_j, wkV_d, frz_d, reduceCtorEq]
          · rw [if_neg (fun e => h3 (by have := e.2; omega))] at hJ
            simp (implicitDefEqProofs := false) (dsimp := false) only [↓aw_skip, ↓aw_reg, ↓Qseq_n, ↓Qblk_n, ↓ops_nil, ↓ops_cons, ↓eval_tmp, ↓eval_int, ↓put_some, ↓binE_i, ↓bi_add, ↓in_i64, ↓op_move, ↓op_assign, ↓op_bin, List.getD_cons_zero, List.getD_cons_succ, List.set_cons_zero, List.set_cons_succ, Nat.reduceAdd, Nat.reduceSub, Nat.reduceMul, evK_go, reduceIte, Nat.reduceEqDiff, Nat.reduceLT]
            refine ⟨by omega, k + 1, by omega, by omega, ?_⟩
            refine Wkn.of [] [] ?_
            simp (implicitDefEqProofs := false) (dsimp := false) only [hJ, List.set_cons_zero, List.set_cons_succ, Bool.and_self, Nat.reduceAdd, Nat.reduceSub, Nat.reduceMul, List.replicate, evK_go, reduceIte, Nat.reduceEqDiff, Nat.reduceLT, and_self, List.foldl_cons, List.foldl_nil, Int.cast_ofNat_Int, Int.natCast_add, slots, wkL_nil, wkL_cons, wkB_nil, wkR_nil, wkV_j, wkV_d, frz_d, reduceCtorEq]
        · rw [if_neg (fun e => hg e.1)] at hJ
          simp (implicitDefEqProofs := false) (dsimp := false) only [↓aw_skip, ↓aw_reg, ↓Qseq_n, ↓Qblk_n, ↓ops_nil, ↓ops_cons, ↓eval_tmp, ↓eval_int, ↓put_some, ↓binE_i, ↓bi_add, ↓in_i64, ↓op_move, ↓op_assign, ↓op_bin, List.getD_cons_zero, List.getD_cons_succ, List.set_cons_zero, List.set_cons_succ, Nat.reduceAdd, Nat.reduceSub, Nat.reduceMul, evK_go, reduceIte, Nat.reduceEqDiff, Nat.reduceLT]
          refine ⟨by omega, k + 1, by omega, by omega, ?_⟩
          refine Wkn.of [] [] ?_
          simp (implicitDefEqProofs := false) (dsimp := false) only [hJ, List.set_cons_zero, List.set_cons_succ, Bool.and_self, Nat.reduceAdd, Nat.reduceSub, Nat.reduceMul, List.replicate, evK_go, reduceIte, Nat.reduceEqDiff, Nat.reduceLT, and_self, List.foldl_cons, List.foldl_nil, Int.cast_ofNat_Int, Int.natCast_add, slots, wkL_nil, wkL_cons, wkB_nil, wkR_nil, wkV_j, wkV_d, frz_d, reduceCtorEq]
      · obtain rfl : k = ends.length := by omega
        simp (implicitDefEqProofs := false) (dsimp := false) only [↓aw_seq, ↓aw_exit, ↓aw_ret, ↓aw_reg, ↓Qseq_n, ↓Qseq_x, ↓Qblk_x, ↓Qret_r, ↓ops_nil, ↓ops_cons, ↓eval_tmp, ↓put_some, ↓op_move, ↓op_assign, ↓td_d, ↓ret_1, List.getD_cons_zero, List.getD_cons_succ, List.set_cons_zero, List.set_cons_succ, Nat.reduceAdd, Nat.reduceSub, Nat.reduceMul, evK_go, reduceIte, decide_false, Nat.reduceEqDiff, Nat.reduceLT, Nat.lt_irrefl]
        skip
theorem rrows0_spec (G : List (Nat × Nat)) (os : List Nat) (hpre : os.length ≤ 40 ∧ G.length < 2 ^ 62) : FnD Tryd.prog 75 [.l (G.map lnN), .l (os.map nD), .l []] (I .i64 (rowF G os [] : Nat)) := by
  exact rrows_spec G hpre.2 os [] (by simpa using hpre.1)
theorem rrows0_call (G : List (Nat × Nat)) (os : List Nat) (pure : Bool) (σ : St) (dst : Option Tmp) (K : St → Prop) : CallH Tryd.prog 75 [.l (G.map lnN), .l (os.map nD), .l []] pure σ dst (.mk : Hid K) = OrH ((os.length ≤ 40 ∧ G.length < 2 ^ 62) ∧ (pure || D.flat (I .i64 (rowF G os [] : Nat))) = true ∧ evK (σ.put dst (.d (I .i64 (rowF G os [] : Nat)))) (.mk : Hid K)) (.mk : Hid (CallH Tryd.prog 75 [.l (G.map lnN), .l (os.map nD), .l []] pure σ dst (.mk : Hid K))) := CallH.eq (rrows0_spec G os) pure σ dst K
theorem rbesN_spec (L : List (Nat × Nat)) (a b : Nat) (hpre : L.length < 2 ^ 62) : FnD Tryd.prog 109 [.l (L.map lnN), I .i64 (a : Int), I .i64 (b : Int)] (Bo (decide ((a, b) ∈ L) || decide ((b, a) ∈ L))) := by
  refine FnD.go Tryd.func109 rfl rfl Tryd.results109 Tryd.ntmps109 ?_
  simp (implicitDefEqProofs := false) (dsimp := false) only [↓aw_seq, ↓aw_reg, ↓Qseq_n, ↓ops_nil, ↓ops_cons, ↓eval_tmp, ↓eval_bool, ↓eval_func, ↓put_some, ↓op_move, ↓op_assign, ↓op_call, isD_d, ↓fnK_f, ↓call_H, ↓callK_H, ↓allT_nil, ↓allT_cons, ↓td_d, List.getD_cons_zero, List.getD_cons_succ, List.set_cons_zero, List.set_cons_succ, List.cons_append, List.nil_append, List.append_nil, List.map_cons, List.map_nil, List.length_cons, List.length_nil, List.all_cons, List.all_nil, Bool.and_self, Nat.reduceAdd, Nat.reduceSub, Nat.reduceMul, Nat.zero_add, List.replicate, evK_go, reduceIte, Nat.reduceEqDiff, Nat.reduceLT, and_self, Int.zero_add]
  simp (implicitDefEqProofs := false) (dsimp := false) only [goesN_call, hpre, ↓gdK_f, ↓gval_mk, ↓gvL_zero, ↓gvL_succ, ↓ops_cons, ↓ops_guard, ↓eval_tmp, ↓put_some, ↓op_move, ↓st_tm, List.getD_cons_zero, List.getD_cons_succ, List.set_cons_zero, List.set_cons_succ, Bool.true_and, Bool.true_or, Nat.reduceAdd, Nat.reduceSub, Nat.reduceMul, evK_go, reduceIte, Nat.reduceEqDiff, Nat.reduceLT, true_and]
  (repeat refine OrH.l ?_)
  cases h : decide ((a, b) ∈ L) with
  | true =>
    simp (implicitDefEqProofs := false) (dsimp := false) only [↓cdK_true, ↓gdK_f, ↓gval_mk, ↓gvL_zero, ↓gvL_succ, ↓aw_ret, ↓Qseq_n, ↓Qret_r, ↓ops_nil, ↓ops_cons, ↓ops_guard, ↓eval_tmp, ↓eval_bool, ↓put_some, ↓bK_b, ↓op_assign, ↓op_pick, ↓td_d, ↓ret_1, ↓st_tm, List.getD_cons_zero, List.getD_cons_succ, List.set_cons_zero, List.set_cons_succ, Bool.true_or, Nat.reduceAdd, Nat.reduceSub, Nat.reduceMul, evK_go, reduceIte, Nat.reduceEqDiff, Nat.reduceLT]
    skip
  | false =>
    simp (implicitDefEqProofs := false) (dsimp := false) only [goesN_call, hpre, ↓cdK_false, ↓gdK_f, ↓gval_mk, ↓gvL_zero, ↓gvL_succ, ↓aw_ret, ↓Qseq_n, ↓Qret_r, ↓ops_nil, ↓ops_cons, ↓ops_guard, ↓eval_tmp, ↓eval_func, ↓put_some, ↓bK_b, ↓op_move, ↓op_assign, ↓op_pick, ↓op_call, ↓orH_T, isD_d, ↓fnK_f, ↓call_H, ↓callK_H, ↓allT_nil, ↓allT_cons, ↓td_d, ↓ret_1, ↓st_tm, List.getD_cons_zero, List.getD_cons_succ, List.set_cons_zero, List.set_cons_succ, List.append_nil, List.all_cons, List.all_nil, Bool.and_self, Bool.true_or, Bool.false_or, Nat.reduceAdd, Nat.reduceSub, Nat.reduceMul, evK_go, reduceIte, Nat.reduceEqDiff, Nat.reduceLT, and_self]
    (repeat refine OrH.l ?_)
    skip
theorem rbesN_call (L : List (Nat × Nat)) (a b : Nat) (pure : Bool) (σ : St) (dst : Option Tmp) (K : St → Prop) : CallH Tryd.prog 109 [.l (L.map lnN), I .i64 (a : Int), I .i64 (b : Int)] pure σ dst (.mk : Hid K) = OrH ((L.length < 2 ^ 62) ∧ (pure || D.flat (Bo (decide ((a, b) ∈ L) || decide ((b, a) ∈ L)))) = true ∧ evK (σ.put dst (.d (Bo (decide ((a, b) ∈ L) || decide ((b, a) ∈ L))))) (.mk : Hid K)) (.mk : Hid (CallH Tryd.prog 109 [.l (L.map lnN), I .i64 (a : Int), I .i64 (b : Int)] pure σ dst (.mk : Hid K))) := CallH.eq (rbesN_spec L a b) pure σ dst K
theorem wideF_le (C : List (Nat × Nat)) (n : Nat) : ∀ (k : Nat) (has : List Nat), wideF C n k has ≤ has.length + k := by
  intro k
  induction k with
  | zero => intro has; exact Nat.le_refl _
  | succ k ih =>
    intro has
    have h1 := ih has
    have h2 := ih (has ++ [n - (k + 1)])
    rw [List.length_append, List.length_singleton] at h2
    unfold wideF
    split
    · exact Nat.max_le.2 ⟨by omega, by omega⟩
    · omega
theorem rwide_spec (C : List (Nat × Nat)) (n : Nat) (hC : C.length < 2 ^ 62) (hn : n ≤ 40) : ∀ (k : Nat), k ≤ n → ∀ has : List Nat, has.length + k ≤ n → FnD Tryd.prog 76 [I .i64 (n : Int), .l (C.map lnN), I .i64 ((n - k : Nat) : Int), .l (has.map nD)] (I .i64 (wideF C n k has : Nat)) := by
  intro k
  induction k with
  | zero =>
    intro _ has hh
    have e2 : decide (n - 0 = n) = true := decide_eq_true (by omega)
    refine FnD.go Tryd.func76 rfl rfl Tryd.results76 Tryd.ntmps76 ?_
    simp (implicitDefEqProofs := false) (dsimp := false) only [↓aw_cond, ↓aw_seq, ↓aw_reg, ↓Qseq_n, ↓ops_nil, ↓ops_cons, ↓eval_tmp, ↓eval_int, ↓put_some, ↓bK_b, ↓binE_i, ↓bi_eql, ↓op_move, ↓op_assign, ↓op_bin, List.getD_cons_zero, List.getD_cons_succ, List.set_cons_zero, List.set_cons_succ, List.cons_append, List.nil_append, List.map_cons, List.map_nil, List.length_cons, List.length_nil, Nat.reduceAdd, Nat.reduceSub, Nat.reduceMul, Nat.zero_add, List.replicate, evK_go, reduceIte, Nat.reduceEqDiff, Nat.reduceLT, Int.zero_add, Int.natCast_inj]
    simp (implicitDefEqProofs := false) (dsimp := false) only [e2, wideF, ↓cdK_true, ↓aw_seq, ↓aw_ret, ↓aw_reg, ↓Qseq_n, ↓Qseq_r, ↓Qret_r, ↓ops_nil, ↓ops_cons, ↓eval_tmp, ↓put_some, ↓lenK_l, ↓op_move, ↓op_assign, ↓op_len, ↓td_d, ↓ret_1, ↓sl24, List.getD_cons_zero, List.getD_cons_succ, List.set_cons_zero, List.set_cons_succ, List.length_map, Nat.reduceAdd, Nat.reduceSub, Nat.reduceMul, evK_go, reduceIte, Nat.reduceEqDiff, Nat.reduceLT]
    skip
  | succ k ih =>
    intro hk has hh
    obtain ⟨i, hi⟩ : ∃ i, i = n - (k + 1) := ⟨_, rfl⟩
    have ei : n - k = i + 1 := by omega
    have hW : wideF C n (k + 1) has = if (has.all fun y => !(decide ((i, y) ∈ C) || decide ((y, i) ∈ C))) = true then max (wideF C n k has) (wideF C n k (has ++ [i])) else wideF C n k has := by rw [hi]; rfl
    rw [hW, ← hi]
    have hu40 : has.length < 2 ^ 40 := by omega
    have hu62 : has.length < 2 ^ 62 := by omega
    have e2 : decide (i = n) = false := decide_eq_false (by omega)
    have hc := CallH.eq0 (ih (by omega) has (by omega))
    have hc2 := CallH.eq0 (ih (by omega) (has ++ [i]) (by simp; omega))
    rw [ei] at hc hc2
    have ei2 : ((i + 1 : Nat) : Int) = (i : Int) + 1 := by omega
    rw [ei2] at hc hc2
    have hf1 := wideF_le C n k has
    clear ih
    refine FnD.go Tryd.func76 rfl rfl Tryd.results76 Tryd.ntmps76 ?_
    simp (implicitDefEqProofs := false) (dsimp := false) only [↓aw_cond, ↓aw_seq, ↓aw_reg, ↓Qseq_n, ↓ops_nil, ↓ops_cons, ↓eval_tmp, ↓eval_int, ↓put_some, ↓bK_b, ↓binE_i, ↓bi_eql, ↓op_move, ↓op_assign, ↓op_bin, List.getD_cons_zero, List.getD_cons_succ, List.set_cons_zero, List.set_cons_succ, List.cons_append, List.nil_append, List.map_cons, List.map_nil, List.length_cons, List.length_nil, Nat.reduceAdd, Nat.reduceSub, Nat.reduceMul, Nat.zero_add, List.replicate, evK_go, reduceIte, Nat.reduceEqDiff, Nat.reduceLT, Int.zero_add, Int.natCast_inj]
    simp (implicitDefEqProofs := false) (dsimp := false) only [e2, hc, ↓cdK_false, ↓aw_seq, ↓aw_block, ↓aw_skip, ↓aw_loop, ↓aw_reg, ↓Qseq_n, ↓ops_nil, ↓ops_cons, ↓eval_tmp, ↓eval_int, ↓eval_bool, ↓eval_func, ↓put_some, ↓binE_i, ↓bi_add, ↓in_i64, ↓op_move, ↓op_assign, ↓op_bin, ↓op_call, isD_d, ↓fnK_f, ↓call_H, ↓callK_H, ↓allT_nil, ↓allT_cons, ↓td_d, List.getD_cons_zero, List.getD_cons_succ, List.set_cons_zero, List.set_cons_succ, List.append_nil, List.all_cons, List.all_nil, Bool.true_and, Bool.and_self, Bool.true_or, Nat.reduceAdd, Nat.reduceSub, Nat.reduceMul, evK_go, reduceIte, Nat.reduceEqDiff, Nat.reduceLT, and_self, true_and]
    refine ⟨by omega, ?_⟩
    (repeat refine OrH.l ?_)
    generalize wideF C n k = f at *
    refine loopW (fun j : Nat => { tm := slots 55 [(0, .d (I .i64 (n : Int))), (1, .d (.l (C.map lnN))), (2, .d (I .i64 (i : Int))), (3, .d (.l (has.map nD))), (9, .d (I .i64 (f has : Nat))), (10, .d (Bo ((has.take j).all fun y => !(decide ((i, y) ∈ C) || decide ((y, i) ∈ C))))), (11, .d (I .i64 j))], bx := [], rw := [] })
      (fun j => j ≤ has.length) (fun j => has.length - j) 0 (by simp) ?_ ?_
    · refine Wkn.of [] [] ?_
      simp (implicitDefEqProofs := false) (dsimp := false) only [List.take_zero, List.all_nil, List.set_cons_zero, List.set_cons_succ, List.all_nil, Bool.and_self, Nat.reduceAdd, Nat.reduceSub, Nat.reduceMul, List.replicate, evK_go, reduceIte, Nat.reduceEqDiff, Nat.reduceLT, and_self, List.take_zero, List.foldl_cons, List.foldl_nil, Int.cast_ofNat_Int, slots, wkL_nil, wkL_cons, wkB_nil, wkR_nil, wkV_j, wkV_d, frz_d, reduceCtorEq]
    · intro j hj
      have hs : j < has.length → ((has.take (j + 1)).all fun y => !(decide ((i, y) ∈ C) || decide ((y, i) ∈ C))) = (((has.take j).all fun y => !(decide ((i, y) ∈ C) || decide ((y, i) ∈ C))) && !(decide ((i, has.getD j default) ∈ C) || decide ((has.getD j default, i) ∈ C))) := fun h => by
        rw [take_succ_getD h, List.all_append]; simp
      have hend : j = has.length → ((has.take j).all fun y => !(decide ((i, y) ∈ C) || decide ((y, i) ∈ C))) = has.all fun y => !(decide ((i, y) ∈ C) || decide ((y, i) ∈ C)) := fun e => by rw [e, List.take_length]
      generalize ((has.take j).all fun y => !(decide ((i, y) ∈ C) || decide ((y, i) ∈ C))) = t at hs hend ⊢
      simp (implicitDefEqProofs := false) (dsimp := false) only [slots, ↓aw_cond, ↓aw_seq, ↓aw_reg, ↓Qseq_n, ↓ops_nil, ↓ops_cons, ↓eval_tmp, ↓put_some, ↓bK_b, ↓lenK_l, ↓binE_i, ↓bi_lss, ↓op_move, ↓op_bin, ↓op_len, ↓sl24, List.getD_cons_zero, List.getD_cons_succ, List.set_cons_zero, List.set_cons_succ, List.length_map, Nat.reduceAdd, Nat.reduceSub, Nat.reduceMul, List.replicate, evK_go, reduceIte, Nat.reduceEqDiff, Nat.reduceLT, List.foldl_cons, List.foldl_nil, Int.ofNat_lt]
      refine cdK_dec (fun h => ?_) (fun h => ?_)
      · have hjh : j < has.length := by omega
        have hs := hs hjh
        cases t with
        | false =>
          rw [Bool.false_and] at hs
          simp (implicitDefEqProofs := false) (dsimp := false) only [↓cdK_false, ↓gdK_t, ↓gval_mk, ↓gvL_zero, ↓gvL_succ, ↓aw_seq, ↓aw_block, ↓aw_skip, ↓aw_reg, ↓Qseq_n, ↓Qblk_n, ↓ops_nil, ↓ops_cons, ↓ops_guard, ↓eval_tmp, ↓eval_int, ↓eval_bool, ↓put_some, ↓bK_b, ↓binE_i, ↓bi_add, ↓in_i64, ↓op_move, ↓op_assign, ↓op_pick, ↓op_bin, ↓st_tm, List.getD_cons_zero, List.getD_cons_succ, List.set_cons_zero, List.set_cons_succ, Nat.reduceAdd, Nat.reduceSub, Nat.reduceMul, evK_go, reduceIte, Nat.reduceEqDiff, Nat.reduceLT]
          refine ⟨by omega, j + 1, by omega, by omega, ?_⟩
          refine Wkn.of [] [] ?_; simp (implicitDefEqProofs := false) (dsimp := false) only [hs, List.set_cons_zero, List.set_cons_succ, Bool.and_self, Nat.reduceAdd, Nat.reduceSub, Nat.reduceMul, List.replicate, evK_go, reduceIte, Nat.reduceEqDiff, Nat.reduceLT, and_self, List.foldl_cons, List.foldl_nil, Int.cast_ofNat_Int, Int.natCast_add, slots, wkL_nil, wkL_cons, wkB_nil, wkR_nil, wkV_j, wkV_d, frz_d, reduceCtorEq]
        | true =>
          rw [Bool.true_and] at hs
          simp (implicitDefEqProofs := false) (dsimp := false) only [hjh, nD, rbesN_call, hC, ↓cdK_true, ↓gdK_t, ↓gval_mk, ↓gvL_zero, ↓gvL_succ, ↓atK_H, ↓atH_map, ↓aw_seq, ↓aw_block, ↓aw_skip, ↓aw_reg, ↓Qseq_n, ↓Qblk_n, ↓ops_nil, ↓ops_cons, ↓ops_guard, ↓eval_tmp, ↓eval_int, ↓eval_func, ↓put_some, ↓bK_b, ↓iK_i, ↓binE_i, ↓bi_add, ↓in_i64, ↓ldK_q, ↓iaK_l, ↓op_move, ↓op_assign, ↓op_pick, ↓op_load, ↓op_bin, ↓op_not, ↓op_ia, ↓op_call, isD_d, ↓fnK_f, ↓call_H, ↓callK_H, ↓allT_nil, ↓allT_cons, ↓td_d, ↓st_tm, ↓cells_c, ↓hd_cons, ↓ty3, ↓sl24, List.getD_cons_zero, List.getD_cons_succ, List.set_cons_zero, List.set_cons_succ, List.append_nil, List.length_cons, List.length_nil, List.all_cons, List.all_nil, Bool.true_and, Bool.and_self, Bool.true_or, Nat.reduceAdd, Nat.reduceSub, Nat.reduceMul, Nat.zero_add, Int.toNat_natCast, evK_go, reduceIte, decide_true, Nat.reduceEqDiff, Nat.reduceLT, and_self, true_and, Int.zero_add, Int.natCast_nonneg]
          (repeat refine OrH.l ?_)
          refine ⟨by omega, j + 1, by omega, by omega, ?_⟩
          refine Wkn.of [] [] ?_; simp (implicitDefEqProofs := false) (dsimp := false) only [hs, List.set_cons_zero, List.set_cons_succ, Bool.and_self, Nat.reduceAdd, Nat.reduceSub, Nat.reduceMul, List.replicate, evK_go, reduceIte, Nat.reduceEqDiff, Nat.reduceLT, and_self, List.foldl_cons, List.foldl_nil, Int.cast_ofNat_Int, Int.natCast_add, slots, wkL_nil, wkL_cons, wkB_nil, wkR_nil, wkV_j, wkV_d, frz_d, reduceCtorEq]
      · have he := hend (by omega)
        rw [← he]
        cases t with
        | false =>
          simp (implicitDefEqProofs := false) (dsimp := false) only [Bool.false_eq_true, if_false, ↓cdK_false, ↓aw_cond, ↓aw_seq, ↓aw_exit, ↓aw_ret, ↓aw_skip, ↓aw_reg, ↓Qseq_n, ↓Qseq_x, ↓Qblk_x, ↓Qret_r, ↓ops_nil, ↓ops_cons, ↓eval_tmp, ↓put_some, ↓bK_b, ↓op_move, ↓op_assign, ↓td_d, ↓ret_1, List.getD_cons_zero, List.getD_cons_succ, List.set_cons_zero, List.set_cons_succ, Nat.reduceAdd, Nat.reduceSub, Nat.reduceMul, evK_go, reduceIte, Nat.reduceEqDiff, Nat.reduceLT]
          skip
        | true =>
          simp (implicitDefEqProofs := false) (dsimp := false) only [if_true, rbehind_callD, hu40, hc2, ↓cdK_true, ↓aw_cond, ↓aw_seq, ↓aw_exit, ↓aw_reg, ↓Qseq_n, ↓Qseq_x, ↓Qblk_x, ↓ops_nil, ↓ops_cons, ↓eval_tmp, ↓eval_int, ↓eval_func, ↓put_some, ↓bK_b, ↓binE_i, ↓bi_add, ↓bi_gtr, ↓in_i64, ↓op_move, ↓op_assign, ↓op_bin, ↓op_call, isD_d, ↓fnK_f, ↓call_H, ↓callK_H, ↓allT_nil, ↓allT_cons, ↓td_d, List.getD_cons_zero, List.getD_cons_succ, List.set_cons_zero, List.set_cons_succ, List.append_nil, List.all_cons, List.all_nil, Bool.true_and, Bool.and_self, Bool.true_or, Nat.reduceAdd, Nat.reduceSub, Nat.reduceMul, evK_go, reduceIte, Nat.reduceEqDiff, Nat.reduceLT, and_self, true_and, Int.ofNat_lt]
          refine ⟨by omega, ?_⟩
          (repeat refine OrH.l ?_)
          refine cdK_dec (fun h3 => ?_) (fun h3 => ?_)
          · rw [Nat.max_eq_right (by omega)]
            simp (implicitDefEqProofs := false) (dsimp := false) only [↓aw_seq, ↓aw_ret, ↓aw_reg, ↓Qseq_n, ↓Qret_r, ↓ops_nil, ↓ops_cons, ↓eval_tmp, ↓put_some, ↓op_move, ↓op_assign, ↓td_d, ↓ret_1, List.getD_cons_zero, List.getD_cons_succ, List.set_cons_zero, List.set_cons_succ, Nat.reduceAdd, Nat.reduceSub, Nat.reduceMul, evK_go, reduceIte, Nat.reduceEqDiff, Nat.reduceLT]
            skip
          · rw [Nat.max_eq_left (by omega)]
            simp (implicitDefEqProofs := false) (dsimp := false) only [↓aw_seq, ↓aw_ret, ↓aw_skip, ↓aw_reg, ↓Qseq_n, ↓Qret_r, ↓ops_nil, ↓ops_cons, ↓eval_tmp, ↓put_some, ↓op_move, ↓op_assign, ↓td_d, ↓ret_1, List.getD_cons_zero, List.getD_cons_succ, List.set_cons_zero, List.set_cons_succ, Nat.reduceAdd, Nat.reduceSub, Nat.reduceMul, evK_go, reduceIte, Nat.reduceEqDiff, Nat.reduceLT]
            skip
theorem rwide0_spec (G : List (Nat × Nat)) (n : Nat) (hpre : n ≤ 40 ∧ G.length < 2 ^ 62) : FnD Tryd.prog 76 [I .i64 (n : Int), .l (G.map lnN), I .i64 0, .l []] (I .i64 (wideF G n n [] : Nat)) := by
  have h := rwide_spec G n hpre.2 hpre.1 n (Nat.le_refl n) [] (by simp)
  rw [Nat.sub_self] at h
  exact h
theorem rwide0_call (G : List (Nat × Nat)) (n : Nat) (pure : Bool) (σ : St) (dst : Option Tmp) (K : St → Prop) : CallH Tryd.prog 76 [I .i64 (n : Int), .l (G.map lnN), I .i64 0, .l []] pure σ dst (.mk : Hid K) = OrH ((n ≤ 40 ∧ G.length < 2 ^ 62) ∧ (pure || D.flat (I .i64 (wideF G n n [] : Nat))) = true ∧ evK (σ.put dst (.d (I .i64 (wideF G n n [] : Nat)))) (.mk : Hid K)) (.mk : Hid (CallH Tryd.prog 76 [I .i64 (n : Int), .l (G.map lnN), I .i64 0, .l []] pure σ dst (.mk : Hid K))) := CallH.eq (rwide0_spec G n) pure σ dst K
end Go.Proofs

namespace Go.Proofs
open Go.Aw
set_option linter.unusedSimpArgs false
set_option maxRecDepth 10000
set_option maxHeartbeats 4000000
def lgK (s : List Nat) (i : Nat) : Nat := (s.take i).foldl (fun b x => max b (x + 1)) 0
theorem lgK_succ {s : List Nat} {i : Nat} (h : i < s.length) : lgK s (i + 1) = max (lgK s i) (s.getD i default + 1) := by
  unfold lgK
  rw [take_succ_getD h, List.foldl_append]; rfl
theorem lg_spec : ∀ (L : List Nat) (b : Nat), b ≤ L.foldl (fun b x => max b (x + 1)) b ∧ (∀ x ∈ L, x + 1 ≤ L.foldl (fun b x => max b (x + 1)) b) ∧ ∀ M, b ≤ M → (∀ x ∈ L, x + 1 ≤ M) → L.foldl (fun b x => max b (x + 1)) b ≤ M := by
  intro L
  induction L with
  | nil => intro b; exact ⟨Nat.le_refl _, fun x hx => by simp at hx, fun M h _ => h⟩
  | cons y L ih =>
    intro b
    obtain ⟨h1, h2, h3⟩ := ih (max b (y + 1))
    rw [List.foldl_cons]
    refine ⟨by omega, fun x hx => ?_, fun M hb hM => h3 M (Nat.max_le.2 ⟨hb, hM y (by simp)⟩) fun x hx => hM x (by simp [hx])⟩
    rcases List.mem_cons.1 hx with rfl | hx
    · omega
    · exact h2 x hx
theorem lgK_all {s : List Nat} (h : 0 < s.length) : lgK s s.length = maxN s + 1 := by
  unfold lgK
  rw [List.take_length]
  obtain ⟨h1, h2⟩ := maxN_spec h
  obtain ⟨_, h4, h5⟩ := lg_spec s 0
  exact Nat.le_antisymm (h5 _ (by omega) fun x hx => by have := h2 x hx; omega) (h4 _ h1)
theorem clos_warR {n : Nat} {l : List (Nat × Nat)} (hn : n ≤ 64) (hg : Good n l) {c : Nat → Nat → Bool} (hc : ∀ i j, i < n → j < n → (c i j = true ↔ Path1 l i j)) : closR c n n = warR n l := by
  unfold closR warR
  rw [List.flatMap_def, List.flatMap_def]
  congr 1
  refine List.map_congr_left fun a ha => ?_
  rw [war_row hn hg hc (List.mem_range.1 ha)]; rfl
theorem chain_rows {n : Int} {l : List (Int × Int)} (h : chainE n l = 0) : ((rowF (warR n.toNat (natL l)) (topoL n l) [] : Nat) : Int) = rowsR n l ∧ ((wideF (warR n.toNat (natL l)) n.toNat n.toNat [] : Nat) : Int) = rowsR n l := by
  obtain ⟨ht, h6⟩ := chainE_zero h
  obtain ⟨hchk, o, ho⟩ := topoE_zero ht
  have ok := chk_ok hchk
  have hi := ok.hi
  have n0 := ok.n0
  obtain ⟨m, h1, h2, h3⟩ := rows_mn h
  have hTI := topo_some (by omega) ok.good ho
  have hto : topoL n l = o := by unfold topoL; rw [if_pos hchk, ho]; rfl
  have hmem := fun a b => warR_mem (n := n.toNat) (l := natL l) (by omega) ok.good a b
  have hg : Good n.toNat (warR n.toNat (natL l)) := fun p hp => ((hmem p.1 p.2).1 hp).lt ok.good
  have hord : ∀ y x, (y, x) ∈ warR n.toNat (natL l) → ∀ s t, o = s ++ x :: t → y ∈ s := fun y x hyx s t e => by
    have hp := (hmem y x).1 hyx
    have h4 := hTI.path ok.good hp
    have hnd := hTI.nodup
    have hy : y ∈ o := hTI.mem.2 (hp.lt ok.good).1
    rw [e] at h4 hnd hy
    have hxs : x ∉ s := fun hm => (List.nodup_append.1 hnd).2.2 x hm x (by simp) rfl
    by_cases hys : y ∈ s
    · exact hys
    · rw [List.idxOf_append, List.idxOf_append, if_neg hys, if_neg hxs, List.idxOf_cons_self] at h4
      omega
  have r1 := row_min (C := warR n.toNat (natL l)) hTI.nodup hTI.len (fun x => hTI.mem) hg hord h1
  have r2 := wide_max hg (fun a b c hab hbc => (hmem a c).2 (((hmem a b).1 hab).trans ((hmem b c).1 hbc).path)) (fun i hii => topo_noring ht i ((hmem i i).1 hii)) h1
  rw [hto]
  omega
theorem lChainSays_spec (n : Int) (l : List (Int × Int)) (hn : -9223372036854775808 ≤ n ∧ n ≤ 9223372036854775807) (hl : l.length < 2 ^ 43) : FnD Tryd.prog 19 [I .i64 n, .l (l.map lnD)] (Bo true) := by
  have hl62 : l.length < 2 ^ 62 := by omega
  have hz : ((0 : Nat) : Int) = 0 := rfl
  have h00 : decide ((0 : Int) = 0) = true := by decide
  have h50 : decide ((5 : Int) = 0) = false := by decide
  have h40 : decide ((4 : Int) = 0) = false := by decide
  refine FnD.go Tryd.func19 rfl rfl Tryd.results19 Tryd.ntmps19 ?_
  simp (implicitDefEqProofs := false) (dsimp := false) only [↓aw_seq, ↓aw_reg, ↓Qseq_n, ↓ops_nil, ↓ops_cons, ↓eval_tmp, ↓eval_bool, ↓eval_func, ↓put_some, ↓op_move, ↓op_assign, ↓op_call, isD_d, ↓fnK_f, ↓call_H, ↓callK_H, ↓allT_nil, ↓allT_cons, ↓td_d, List.getD_cons_zero, List.getD_cons_succ, List.set_cons_zero, List.set_cons_succ, List.cons_append, List.nil_append, List.append_nil, List.map_cons, List.map_nil, List.length_cons, List.length_nil, List.all_cons, List.all_nil, Bool.and_self, Nat.reduceAdd, Nat.reduceSub, Nat.reduceMul, Nat.zero_add, List.replicate, evK_go, reduceIte, Nat.reduceEqDiff, Nat.reduceLT, and_self, Int.zero_add]
  simp (implicitDefEqProofs := false) (dsimp := false) only [lines_call, hl62, ↓aw_cond, ↓aw_seq, ↓aw_reg, ↓Qseq_n, ↓ops_nil, ↓ops_cons, ↓eval_tmp, ↓eval_int, ↓eval_nil, ↓put_some, ↓bK_b, ↓binE_i, ↓bi_eql, ↓op_move, ↓op_assign, ↓op_bin, List.getD_cons_zero, List.getD_cons_succ, List.set_cons_zero, List.set_cons_succ, Bool.true_and, Bool.true_or, Nat.reduceAdd, Nat.reduceSub, Nat.reduceMul, evK_go, reduceIte, Nat.reduceEqDiff, Nat.reduceLT, true_and]
  (repeat refine OrH.l ?_)
  have bad : ∀ e : Int, topoE n l = e → e ≠ 0 → longR n l = 0 ∧ rowsR n l = 0 ∧ chainE n l = e ∧ decide (e = 0) = false := fun e h1 h2 => by
    have h3 : chainE n l = e := by
      unfold chainE
      rw [if_neg (by rw [h1]; exact h2), h1]
    exact ⟨if_neg (by rw [h1]; exact h2), if_neg (by rw [h3]; exact h2), h3, decide_eq_false h2⟩
  by_cases hc : chk n l = 0
  rotate_left
  · have e1 : topoE n l = chk n l := if_neg hc
    obtain ⟨b1, b2, b3, b4⟩ := bad _ e1 hc
    simp (implicitDefEqProofs := false) (dsimp := false) only [b4, ↓cdK_false, ↓aw_seq, ↓aw_block, ↓aw_skip, ↓aw_loop, ↓aw_reg, ↓Qseq_n, ↓ops_nil, ↓ops_cons, ↓eval_int, ↓put_some, ↓op_assign, List.set_cons_zero, List.set_cons_succ, Nat.reduceAdd, Nat.reduceSub, Nat.reduceMul, evK_go, reduceIte, Nat.reduceEqDiff, Nat.reduceLT]
    refine loopW (fun _ : Unit => { tm := slots 116 [(0, .d (I .i64 n)), (1, .d (.l (l.map lnD))), (5, .d (I .i64 (chk n l))), (6, .d (I .i64 0)), (7, .nl), (10, .d (I .i64 0))], bx := [], rw := [] })
      (fun _ => True) (fun _ => 0) () trivial ?_ ?_
    · refine Wkn.of [] [] ?_; simp (implicitDefEqProofs := false) (dsimp := false) only [List.set_cons_zero, List.set_cons_succ, Bool.and_self, Nat.reduceAdd, Nat.reduceSub, Nat.reduceMul, List.replicate, evK_go, reduceIte, Nat.reduceEqDiff, Nat.reduceLT, and_self, List.foldl_cons, List.foldl_nil, slots, wkL_nil, wkL_cons, wkB_nil, wkR_nil, wkV_j, wkV_d, wkV_nl, nlK_nl, frz_d, reduceCtorEq]
    · rintro ⟨⟩ _
      simp (implicitDefEqProofs := false) (dsimp := false) only [slots, ↓gdK_t, ↓gval_mk, ↓gvL_zero, ↓gvL_succ, ↓aw_seq, ↓aw_reg, ↓ops_cons, ↓ops_guard, ↓eval_tmp, ↓put_some, ↓binE_i, ↓bi_lss, ↓op_move, ↓op_bin, ↓st_tm, List.getD_cons_zero, List.getD_cons_succ, List.set_cons_zero, List.set_cons_succ, Nat.reduceAdd, Nat.reduceSub, Nat.reduceMul, List.replicate, evK_go, reduceIte, Nat.reduceEqDiff, Nat.reduceLT, List.foldl_cons, List.foldl_nil]
      by_cases h : (0 : Int) < n
      · simp (implicitDefEqProofs := false) (dsimp := false) only [decide_eq_true h, b4, longest_call, rows_call, widest_call, hl62, e1, b1, b2, b3, hz, eerr_call, ↓cdK_true, ↓cdK_false, ↓gdK_t, ↓gval_mk, ↓gvL_zero, ↓gvL_succ, ↓nthK_H, ↓nthH_zero, ↓nthH_succ, ↓aw_cond, ↓aw_seq, ↓aw_exit, ↓aw_ret, ↓aw_skip, ↓aw_reg, ↓Qseq_n, ↓Qseq_x, ↓Qblk_x, ↓Qret_r, ↓ops_nil, ↓ops_cons, ↓ops_guard, ↓eval_tmp, ↓eval_int, ↓eval_bool, ↓eval_func, ↓put_some, ↓bK_b, ↓tK_t, ↓binE_i, ↓bi_eql, ↓op_move, ↓op_assign, ↓op_pick, ↓op_bin, ↓op_extract, ↓op_call, ↓orH_T, isD_d, ↓fnK_f, ↓call_H, ↓callK_H, ↓allT_nil, ↓allT_cons, ↓td_d, ↓ret_1, ↓st_tm, List.getD_cons_zero, List.getD_cons_succ, List.set_cons_zero, List.set_cons_succ, List.append_nil, List.all_cons, List.all_nil, Bool.and_self, Bool.true_or, Nat.reduceAdd, Nat.reduceSub, Nat.reduceMul, evK_go, reduceIte, decide_true, Nat.reduceEqDiff, Nat.reduceLT, and_self]
        (repeat (first | refine OrH.l ?_ | refine ⟨⟨rfl, by decide⟩, ?_⟩ | refine ⟨by decide, ?_⟩ | refine ⟨by omega, ?_⟩ | exact ⟨rfl, by decide⟩ | decide))
      · simp (implicitDefEqProofs := false) (dsimp := false) only [decide_eq_false h, b4, longest_call, rows_call, widest_call, hl62, e1, b1, b2, b3, hz, eerr_call, ↓cdK_true, ↓cdK_false, ↓gdK_t, ↓gval_mk, ↓gvL_zero, ↓gvL_succ, ↓nthK_H, ↓nthH_zero, ↓nthH_succ, ↓aw_cond, ↓aw_seq, ↓aw_exit, ↓aw_ret, ↓aw_skip, ↓aw_reg, ↓Qseq_n, ↓Qseq_x, ↓Qblk_x, ↓Qret_r, ↓ops_nil, ↓ops_cons, ↓ops_guard, ↓eval_tmp, ↓eval_int, ↓eval_bool, ↓eval_func, ↓put_some, ↓bK_b, ↓tK_t, ↓binE_i, ↓bi_eql, ↓op_move, ↓op_assign, ↓op_pick, ↓op_bin, ↓op_extract, ↓op_call, ↓orH_T, isD_d, ↓fnK_f, ↓call_H, ↓callK_H, ↓allT_nil, ↓allT_cons, ↓td_d, ↓ret_1, ↓st_tm, List.getD_cons_zero, List.getD_cons_succ, List.set_cons_zero, List.set_cons_succ, List.append_nil, List.all_cons, List.all_nil, Bool.and_self, Bool.true_or, Nat.reduceAdd, Nat.reduceSub, Nat.reduceMul, evK_go, reduceIte, decide_true, Nat.reduceEqDiff, Nat.reduceLT, and_self]
        (repeat (first | refine OrH.l ?_ | refine ⟨⟨rfl, by decide⟩, ?_⟩ | refine ⟨by decide, ?_⟩ | refine ⟨by omega, ?_⟩ | exact ⟨rfl, by decide⟩ | decide))
  have hd := decide_eq_true hc
  have hpr : chk n l = 0 ∧ l.length < 2 ^ 62 := ⟨hc, hl62⟩
  have h5 : topoE n l = 0 ∨ topoE n l = 5 := by unfold topoE; rw [if_pos hc]; split <;> simp
  have ok := chk_ok hc
  have hi8 := ok.hi
  have hlo := ok.lo
  have n0 := ok.n0
  have hn0 : decide ((0 : Int) < n) = true := decide_eq_true (by omega)
  rw [hc]
  rcases h5 with e1 | e1
  rotate_left
  · obtain ⟨b1, b2, b3, b4⟩ := bad _ e1 (by decide)
    have e4 : decide (topoE n l = 0) = false := by rw [e1]; decide
    simp (implicitDefEqProofs := false) (dsimp := false) only [rordI_call, hpr, e4, ↓cdK_true, ↓nthK_H, ↓nthH_zero, ↓nthH_succ, ↓aw_cond, ↓aw_seq, ↓aw_block, ↓aw_loop, ↓aw_reg, ↓Qseq_n, ↓ops_nil, ↓ops_cons, ↓eval_tmp, ↓eval_int, ↓eval_func, ↓put_some, ↓bK_b, ↓tK_t, ↓op_move, ↓op_assign, ↓op_not, ↓op_extract, ↓op_call, isD_d, ↓fnK_f, ↓call_H, ↓callK_H, ↓allT_nil, ↓allT_cons, ↓td_d, List.getD_cons_zero, List.getD_cons_succ, List.set_cons_zero, List.set_cons_succ, List.append_nil, List.all_cons, List.all_nil, Bool.true_and, Bool.and_self, Bool.true_or, Nat.reduceAdd, Nat.reduceSub, Nat.reduceMul, evK_go, reduceIte, decide_true, Bool.not_false, Nat.reduceEqDiff, Nat.reduceLT, and_self, true_and]
    (repeat refine OrH.l ?_)
    refine loopW (fun _ : Unit => { tm := slots 116 [(0, .d (I .i64 n)), (1, .d (.l (l.map lnD))), (5, .d (I .i64 5)), (6, .d (I .i64 0)), (10, .d (I .i64 0))], bx := [], rw := [] })
      (fun _ => True) (fun _ => 0) () trivial ?_ ?_
    · refine Wkn.of [] [] ?_; simp (implicitDefEqProofs := false) (dsimp := false) only [List.set_cons_zero, List.set_cons_succ, Bool.and_self, Nat.reduceAdd, Nat.reduceSub, Nat.reduceMul, List.replicate, evK_go, reduceIte, Nat.reduceEqDiff, Nat.reduceLT, and_self, List.foldl_cons, List.foldl_nil, slots, wkL_nil, wkL_cons, wkB_nil, wkR_nil, wkV_j, wkV_d, frz_d, reduceCtorEq]
    · rintro ⟨⟩ _
      simp (implicitDefEqProofs := false) (dsimp := false) only [slots, hn0, h50, longest_call, rows_call, widest_call, hl62, e1, b1, b2, b3, hz, eerr_call, ↓cdK_true, ↓cdK_false, ↓gdK_t, ↓gval_mk, ↓gvL_zero, ↓gvL_succ, ↓nthK_H, ↓nthH_zero, ↓nthH_succ, ↓aw_cond, ↓aw_seq, ↓aw_exit, ↓aw_ret, ↓aw_skip, ↓aw_reg, ↓Qseq_n, ↓Qseq_x, ↓Qblk_x, ↓Qret_r, ↓ops_nil, ↓ops_cons, ↓ops_guard, ↓eval_tmp, ↓eval_int, ↓eval_bool, ↓eval_func, ↓put_some, ↓bK_b, ↓tK_t, ↓binE_i, ↓bi_eql, ↓bi_lss, ↓op_move, ↓op_assign, ↓op_pick, ↓op_bin, ↓op_extract, ↓op_call, ↓orH_T, isD_d, ↓fnK_f, ↓call_H, ↓callK_H, ↓allT_nil, ↓allT_cons, ↓td_d, ↓ret_1, ↓st_tm, List.getD_cons_zero, List.getD_cons_succ, List.set_cons_zero, List.set_cons_succ, List.append_nil, List.all_cons, List.all_nil, Bool.and_self, Bool.true_or, Nat.reduceAdd, Nat.reduceSub, Nat.reduceMul, List.replicate, evK_go, reduceIte, decide_true, Nat.reduceEqDiff, Nat.reduceLT, and_self, List.foldl_cons, List.foldl_nil]
      (repeat (first | refine OrH.l ?_ | refine ⟨⟨rfl, by decide⟩, ?_⟩ | refine ⟨by decide, ?_⟩ | refine ⟨by omega, ?_⟩ | exact ⟨rfl, by decide⟩ | decide))
  have e4 : decide (topoE n l = 0) = true := by rw [e1]; decide
  obtain ⟨d1, d2, d3, d4⟩ := deepR_len e1
  have hg := ok.good
  have hgo := goes_nat ok
  have hcl : closR (comR n.toNat l) n.toNat n.toNat = warR n.toNat (natL l) := clos_warR (by omega) hg fun i j hi hj => comR_iff hgo hg hj
  have hwl : (warR n.toNat (natL l)).length < 2 ^ 62 := by
    rw [← hcl]
    have a1 := closR_len (comR n.toNat l) n.toNat n.toNat
    have a2 : n.toNat * n.toNat ≤ 8 * 8 := Nat.mul_le_mul hi8 hi8
    omega
  have hol : (topoL n l).length ≤ 40 := by
    obtain ⟨_, o, ho⟩ := topoE_zero e1
    have := (topo_some ok.cr.1 ok.cr.2.2 ho).len
    unfold topoL
    rw [if_pos hc, ho, Option.getD_some]
    omega
  have hLg : longR n l = lgK (deepR n l) n.toNat := by
    unfold longR
    rw [if_pos e1, ← d1, lgK_all (by omega)]
  have hlb : ∀ i, lgK (deepR n l) i ≤ 2000 := fun i => (lg_spec _ 0).2.2 _ (by omega) fun x hx => by
    obtain ⟨j, hj, rfl⟩ := List.mem_iff_getElem.1 (List.mem_of_mem_take hx)
    have := d4 j
    rw [List.getD_eq_getElem?_getD, List.getElem?_eq_getElem hj, Option.getD_some] at this
    omega
  have hch := fun h => chain_rows (n := n) (l := l) h
  simp (implicitDefEqProofs := false) (dsimp := false) only [rordI_call, hpr, e4, ↓cdK_true, ↓cdK_false, ↓nthK_H, ↓nthH_zero, ↓nthH_succ, ↓aw_cond, ↓aw_seq, ↓aw_block, ↓aw_skip, ↓aw_loop, ↓aw_reg, ↓Qseq_n, ↓ops_nil, ↓ops_cons, ↓eval_tmp, ↓eval_int, ↓eval_func, ↓put_some, ↓bK_b, ↓tK_t, ↓op_move, ↓op_assign, ↓op_not, ↓op_extract, ↓op_call, isD_d, ↓fnK_f, ↓call_H, ↓callK_H, ↓allT_nil, ↓allT_cons, ↓td_d, List.getD_cons_zero, List.getD_cons_succ, List.set_cons_zero, List.set_cons_succ, List.append_nil, List.all_cons, List.all_nil, Bool.true_and, Bool.and_self, Bool.true_or, Nat.reduceAdd, Nat.reduceSub, Nat.reduceMul, evK_go, reduceIte, decide_true, Bool.not_true, Nat.reduceEqDiff, Nat.reduceLT, and_self, true_and]
  (repeat refine OrH.l ?_)
  refine loopW (fun i : Nat => { tm := slots 116 [(0, .d (I .i64 n)), (1, .d (.l (l.map lnD))), (5, .d (I .i64 0)), (6, .d (I .i64 (lgK (deepR n l) i : Nat))), (7, .d (.l ((topoL n l).map nD))), (10, .d (I .i64 i))], bx := [], rw := [] })
    (fun i => i ≤ n.toNat) (fun i => n.toNat - i) 0 (by simp) ?_ ?_
  · refine Wkn.of [] [] ?_; simp (implicitDefEqProofs := false) (dsimp := false) only [List.set_cons_zero, List.set_cons_succ, Bool.and_true, Bool.true_and, Bool.and_self, Nat.reduceAdd, Nat.reduceSub, Nat.reduceMul, List.replicate, evK_go, reduceIte, Nat.reduceEqDiff, Nat.reduceLT, and_self, true_and, and_true, List.foldl_cons, List.foldl_nil, Int.cast_ofNat_Int, slots, wkL_nil, wkL_cons, wkB_nil, wkR_nil, wkV_j, wkV_d, frz_d, dc_eq, reduceCtorEq]
    rfl
  · intro i hi
    have hs := fun h => lgK_succ (s := deepR n l) (i := i) h
    have hb := hlb i
    have hend : i = n.toNat → lgK (deepR n l) i = longR n l := fun e => by rw [hLg, e]
    generalize lgK (deepR n l) i = y at hs hb hend ⊢
    simp (implicitDefEqProofs := false) (dsimp := false) only [slots, ↓gdK_t, ↓gval_mk, ↓gvL_zero, ↓gvL_succ, ↓aw_seq, ↓aw_reg, ↓ops_cons, ↓ops_guard, ↓eval_tmp, ↓put_some, ↓binE_i, ↓bi_lss, ↓op_move, ↓op_bin, ↓st_tm, List.getD_cons_zero, List.getD_cons_succ, List.set_cons_zero, List.set_cons_succ, Nat.reduceAdd, Nat.reduceSub, Nat.reduceMul, List.replicate, evK_go, reduceIte, Nat.reduceEqDiff, Nat.reduceLT, List.foldl_cons, List.foldl_nil]
    by_cases him : i < n.toNat
    · have q1 : decide ((i : Int) < n) = true := decide_eq_true (by omega)
      have hin : (topoE n l = 0 ∧ i < n.toNat) ∧ l.length < 2 ^ 62 := ⟨⟨e1, him⟩, hl62⟩
      have hs := hs (by omega)
      have hdi := d4 i
      simp (implicitDefEqProofs := false) (dsimp := false) only [q1, rdeepI_call n l i, hin, ↓cdK_true, ↓gdK_t, ↓gval_mk, ↓gvL_zero, ↓gvL_succ, ↓aw_cond, ↓aw_seq, ↓aw_block, ↓aw_skip, ↓aw_reg, ↓Qseq_n, ↓ops_nil, ↓ops_cons, ↓ops_guard, ↓eval_tmp, ↓eval_int, ↓eval_func, ↓put_some, ↓bK_b, ↓binE_i, ↓bi_add, ↓bi_eql, ↓bi_gtr, ↓in_i64, ↓op_move, ↓op_pick, ↓op_bin, ↓op_call, isD_d, ↓fnK_f, ↓call_H, ↓callK_H, ↓allT_nil, ↓allT_cons, ↓td_d, ↓st_tm, List.getD_cons_zero, List.getD_cons_succ, List.set_cons_zero, List.set_cons_succ, List.append_nil, List.all_cons, List.all_nil, Bool.true_and, Bool.and_self, Bool.true_or, Nat.reduceAdd, Nat.reduceSub, Nat.reduceMul, evK_go, reduceIte, decide_true, Nat.reduceEqDiff, Nat.reduceLT, and_self, true_and]
      (repeat refine OrH.l ?_)
      refine ⟨by omega, ?_⟩
      refine cdK_dec (fun h3 => ?_) (fun h3 => ?_)
      · rw [Nat.max_eq_right (by omega)] at hs
        simp (implicitDefEqProofs := false) (dsimp := false) only [rdeepI_call n l i, hin, ↓aw_reg, ↓Qseq_n, ↓Qblk_n, ↓ops_nil, ↓ops_cons, ↓eval_tmp, ↓eval_int, ↓eval_func, ↓put_some, ↓binE_i, ↓bi_add, ↓in_i64, ↓op_move, ↓op_assign, ↓op_bin, ↓op_call, isD_d, ↓fnK_f, ↓call_H, ↓callK_H, ↓allT_nil, ↓allT_cons, ↓td_d, List.getD_cons_zero, List.getD_cons_succ, List.set_cons_zero, List.set_cons_succ, List.append_nil, List.all_cons, List.all_nil, Bool.true_and, Bool.and_self, Bool.true_or, Nat.reduceAdd, Nat.reduceSub, Nat.reduceMul, evK_go, reduceIte, Nat.reduceEqDiff, Nat.reduceLT, and_self, true_and]
        (repeat refine OrH.l ?_)
        refine ⟨by omega, by omega, i + 1, by omega, by omega, ?_⟩
        refine Wkn.of [] [] ?_; simp (implicitDefEqProofs := false) (dsimp := false) only [hs, List.set_cons_zero, List.set_cons_succ, Bool.and_self, Nat.reduceAdd, Nat.reduceSub, Nat.reduceMul, List.replicate, evK_go, reduceIte, Nat.reduceEqDiff, Nat.reduceLT, and_self, List.foldl_cons, List.foldl_nil, Int.cast_ofNat_Int, Int.natCast_add, slots, wkL_nil, wkL_cons, wkB_nil, wkR_nil, wkV_j, wkV_d, frz_d, reduceCtorEq]
      · rw [Nat.max_eq_left (by omega)] at hs
        simp (implicitDefEqProofs := false) (dsimp := false) only [↓aw_skip, ↓aw_reg, ↓Qseq_n, ↓Qblk_n, ↓ops_nil, ↓ops_cons, ↓eval_tmp, ↓eval_int, ↓put_some, ↓binE_i, ↓bi_add, ↓in_i64, ↓op_move, ↓op_assign, ↓op_bin, List.getD_cons_zero, List.getD_cons_succ, List.set_cons_zero, List.set_cons_succ, Nat.reduceAdd, Nat.reduceSub, Nat.reduceMul, evK_go, reduceIte, Nat.reduceEqDiff, Nat.reduceLT]
        refine ⟨by omega, i + 1, by omega, by omega, ?_⟩
        refine Wkn.of [] [] ?_; simp (implicitDefEqProofs := false) (dsimp := false) only [hs, List.set_cons_zero, List.set_cons_succ, Bool.and_self, Nat.reduceAdd, Nat.reduceSub, Nat.reduceMul, List.replicate, evK_go, reduceIte, Nat.reduceEqDiff, Nat.reduceLT, and_self, List.foldl_cons, List.foldl_nil, Int.cast_ofNat_Int, Int.natCast_add, slots, wkL_nil, wkL_cons, wkB_nil, wkR_nil, wkV_j, wkV_d, frz_d, reduceCtorEq]
    · have q1 : decide ((i : Int) < n) = false := decide_eq_false (by omega)
      have hy := hend (by omega)
      by_cases h6 : 6 < n
      · have q2 : decide ((6 : Int) < n) = true := decide_eq_true h6
        have c1 : chainE n l = 4 := by unfold chainE; rw [if_pos e1, if_pos h6]
        have c2 : rowsR n l = 0 := if_neg (by rw [c1]; decide)
        simp (implicitDefEqProofs := false) (dsimp := false) only [q1, q2, hy, h40, longest_call, rows_call, widest_call, hl62, e1, c1, c2, eerr_call, ↓cdK_true, ↓cdK_false, ↓gdK_t, ↓gval_mk, ↓gvL_zero, ↓gvL_succ, ↓nthK_H, ↓nthH_zero, ↓nthH_succ, ↓aw_cond, ↓aw_seq, ↓aw_exit, ↓aw_ret, ↓aw_skip, ↓aw_reg, ↓Qseq_n, ↓Qseq_x, ↓Qblk_x, ↓Qret_r, ↓ops_nil, ↓ops_cons, ↓ops_guard, ↓eval_tmp, ↓eval_int, ↓eval_bool, ↓eval_func, ↓put_some, ↓bK_b, ↓tK_t, ↓binE_i, ↓bi_eql, ↓bi_gtr, ↓op_move, ↓op_assign, ↓op_pick, ↓op_bin, ↓op_extract, ↓op_call, ↓orH_T, isD_d, ↓fnK_f, ↓call_H, ↓callK_H, ↓allT_nil, ↓allT_cons, ↓td_d, ↓ret_1, ↓st_tm, List.getD_cons_zero, List.getD_cons_succ, List.set_cons_zero, List.set_cons_succ, List.append_nil, List.all_cons, List.all_nil, Bool.and_self, Bool.true_or, Nat.reduceAdd, Nat.reduceSub, Nat.reduceMul, evK_go, reduceIte, decide_true, Nat.reduceEqDiff, Nat.reduceLT, and_self]
        (repeat (first | refine OrH.l ?_ | refine ⟨⟨rfl, by decide⟩, ?_⟩ | refine ⟨by decide, ?_⟩ | refine ⟨by omega, ?_⟩ | exact ⟨rfl, by decide⟩ | decide))
      · have q2 : decide ((6 : Int) < n) = false := decide_eq_false h6
        have c1 : chainE n l = 0 := by unfold chainE; rw [if_pos e1, if_neg h6]
        obtain ⟨r1, r2⟩ := hch c1
        obtain ⟨m, hm⟩ : ∃ m, m = n.toNat := ⟨_, rfl⟩
        have hnm : n = (m : Int) := by omega
        rw [← hm] at hcl hwl r1 r2
        rw [hnm] at r1 r2 hol e1 c1 q1 q2 hy ⊢
        have hfp : m ≤ 40 ∧ l.length < 2 ^ 62 := ⟨by omega, hl62⟩
        have q3 : decide (i < m) = false := decide_eq_false (by omega)
        simp (implicitDefEqProofs := false) (dsimp := false) only [q3, q2, hy, longest_call, rows_call, widest_call, hl62, e1, c1, eerr_call, closed_call, hfp, hcl, rrows0_call, rwide0_call, hol, hwl, r1, r2, ↓cdK_true, ↓cdK_false, ↓gdK_t, ↓gval_mk, ↓gvL_zero, ↓gvL_succ, ↓nthK_H, ↓nthH_zero, ↓nthH_succ, ↓aw_cond, ↓aw_seq, ↓aw_exit, ↓aw_ret, ↓aw_skip, ↓aw_reg, ↓Qseq_n, ↓Qseq_x, ↓Qblk_x, ↓Qret_r, ↓ops_nil, ↓ops_cons, ↓ops_guard, ↓eval_tmp, ↓eval_int, ↓eval_bool, ↓eval_nil, ↓eval_func, ↓put_some, ↓bK_b, ↓tK_t, ↓binE_i, ↓bi_eql, ↓bi_gtr, ↓op_move, ↓op_assign, ↓op_pick, ↓op_bin, ↓op_extract, ↓op_call, ↓orH_T, isD_d, isD_nl, ↓fnK_f, ↓call_H, ↓callK_H, ↓allT_nil, ↓allT_cons, ↓td_d, ↓td_nl, ↓ret_1, ↓st_tm, List.getD_cons_zero, List.getD_cons_succ, List.set_cons_zero, List.set_cons_succ, List.append_nil, List.all_cons, List.all_nil, Bool.and_self, Bool.true_or, Nat.reduceAdd, Nat.reduceSub, Nat.reduceMul, evK_go, reduceIte, decide_true, Nat.reduceEqDiff, Nat.reduceLT, and_self, Int.ofNat_lt]
        (repeat (first | refine OrH.l ?_ | refine ⟨⟨rfl, by decide⟩, ?_⟩ | refine ⟨by decide, ?_⟩ | refine ⟨by omega, ?_⟩ | exact ⟨rfl, by decide⟩ | decide))
end Go.Proofs

namespace Go.Proofs
set_option maxRecDepth 100000
theorem cutNo : ("cut".toList == "gc".toList || "cut".toList == "spec".toList) = false := by kernel_rfl
theorem cutNo2 : ("cut".toList == "carried".toList) = false := by kernel_rfl
theorem cutStrip (T : List (List Char)) : stripLifts liftWords ("cut".toList :: T) = ([], "cut".toList :: T) := by kernel_rfl
theorem make_of {P : Program} {T : List (List Char)} (h : behindMainWord (wordsSigns P.initOrder.toList) = "cut".toList :: T) : P.make = some .cut := by
  unfold Program.make
  rw [h]
  simp (implicitDefEqProofs := false) (dsimp := false) only [cutNo, beq_self_eq_true, Bool.true_or, Bool.false_eq_true, if_false, if_true]
theorem enter_of {P : Program} {T : List (List Char)} (h : behindMainWord (wordsSigns P.initOrder.toList) = "cut".toList :: T) (h1 : P.laysLater = false) (h2 : P.bearsReflect = false) (h3 : P.doorFits [] = true) : P.mayEnter = true := by
  unfold Program.mayEnter
  rw [h]
  simp (implicitDefEqProofs := false) (dsimp := false) only [cutStrip, cutNo, cutNo2, h1, h2, h3, List.head?_cons, beq_self_eq_true, Bool.not_false, Bool.or_true, Bool.and_true, Bool.true_and]
  rfl
theorem final_of {P : Program} {T : List (List Char)} (h : behindMainWord (wordsSigns P.initOrder.toList) = "cut".toList :: T) : P.liftsFinal = false := by
  unfold Program.liftsFinal Program.headLifts
  rw [h]
  simp (implicitDefEqProofs := false) (dsimp := false) only [cutStrip]
  kernel_rfl
theorem cutWord : behindMainWord (wordsSigns Tryd.prog.initOrder.toList) = "cut".toList :: (behindMainWord (wordsSigns Tryd.prog.initOrder.toList)).tail := by
  have h : Tryd.prog.initOrder.toList = _ := String.toList_ofList
  rw [h]
  show (_ : List (List Char)) = _
  kernel_rfl
theorem pLater : Tryd.prog.laysLater = false := by
  unfold Program.laysLater
  rw [← Array.any_toList]
  kernel_rfl
theorem pReflect : Tryd.prog.bearsReflect = false := by kernel_rfl
theorem pDoor : Tryd.prog.doorFits [] = true := by kernel_rfl
theorem pMake : Tryd.prog.make = some .cut := make_of cutWord
theorem pEnter : Tryd.prog.mayEnter = true := enter_of cutWord pLater pReflect pDoor
theorem pFinal : Tryd.prog.liftsFinal = false := final_of cutWord
theorem pLaid : laidOutB Tryd.prog = true := by kernel_rfl
theorem pRowed : mapsRowed Tryd.prog = true := by kernel_rfl
theorem pStops : (Tryd.prog.stops == []) = true := by kernel_rfl
theorem pKnobs : (Tryd.prog.stopKnobs == []) = true := by kernel_rfl
theorem pHeard : Tryd.prog.stopsHeard = true := by kernel_rfl
theorem pMain : Tryd.prog.mainIs = some (true, "ef528b23815b70c2662300e7e3ba81efdd8130d758234ace3c638d7836b90011".toList) := by
  have h : Tryd.prog.initOrder.toList = _ := String.toList_ofList
  unfold Program.mainIs
  rw [h]
  show (_ : Option (Bool × List Char)) = _
  kernel_rfl
theorem pLooks : true = Tryd.prog.looks [] := by kernel_rfl
theorem pOwn : ownKnob Tryd.prog.godebug = none := by kernel_rfl
theorem andB {a b : Bool} (ha : a = true) (hb : b = true) : (a && b) = true := by rw [ha, hb]; rfl
end Go.Proofs
