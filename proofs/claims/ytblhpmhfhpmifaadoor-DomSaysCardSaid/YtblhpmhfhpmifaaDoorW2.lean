/- Part W 2 of what the proof of DomSays stands on: what the functions of the program compute. -/
import Derived.Test.YtblhpmhfhpmifaaDoorW1
import Derived.ChangeSlices
set_option linter.unusedVariables false
set_option linter.unusedSimpArgs false
namespace Go.Proofs
open Go.Aw
set_option linter.unusedSimpArgs false
set_option maxRecDepth 10000
def oD (m : Nat) (L : List (Nat × Nat)) (f : Nat) (P : List Nat) : List Nat := (List.range m).map fun i => if i ∈ P then ovS m L f i else 0
def ovP (m : Nat) (L : List (Nat × Nat)) (f c k : Nat) : Nat := addAll 0 ((List.range k).filter (ovC m L f c))
theorem oD_len (m : Nat) (L : List (Nat × Nat)) (f : Nat) (P : List Nat) : (oD m L f P).length = m := by simp [oD]
theorem oD_nil (m : Nat) (L : List (Nat × Nat)) (f : Nat) : oD m L f [] = List.replicate m 0 := by
  unfold oD
  simp [List.map_const']
theorem oD_same {m : Nat} (L : List (Nat × Nat)) (f : Nat) {P : List Nat} {c : Nat} (hc : c ∉ P) : (oD m L f P).set c (ovP m L f c 0) = oD m L f P := by
  refine List.ext_getElem (by simp) fun i h1 h2 => ?_
  rw [List.getElem_set]
  split
  · rename_i e
    subst e
    simp [oD, hc, ovP, addAll]
  · rfl
theorem oD_snoc {m : Nat} (L : List (Nat × Nat)) (f : Nat) (P : List Nat) (c : Nat) : (oD m L f P).set c (ovP m L f c m) = oD m L f (P ++ [c]) := by
  refine List.ext_getElem (by simp [oD]) fun i h1 h2 => ?_
  rw [List.getElem_set]
  split
  · rename_i e
    subst e
    simp [oD]; rfl
  · rename_i e
    have : ¬ i = c := fun h => e h.symm
    simp [oD, this]
theorem ovP_succ (m : Nat) (L : List (Nat × Nat)) (f c k : Nat) : ovP m L f c (k + 1) = if ovC m L f c k then ovP m L f c k ||| 2 ^ k else ovP m L f c k := by
  unfold ovP
  rw [List.range_succ, List.filter_append]
  by_cases h : ovC m L f c k = true
  · rw [if_pos h]
    simp (implicitDefEqProofs := false) (dsimp := false) only [List.filter_cons, h, if_true, List.filter_nil]
    exact addAll_snoc _ _ _
  · rw [if_neg h]
    simp [h]
theorem ovP_lt (m : Nat) (L : List (Nat × Nat)) (f c : Nat) {k : Nat} (hk : k ≤ 64) : ovP m L f c k < 2 ^ 64 := by
  refine addAll_lt 0 _ (by decide) fun x hx => ?_
  have := List.mem_range.1 (List.mem_filter.1 hx).1
  omega
theorem oD_end {m : Nat} (hm : m ≤ 64) (L : List (Nat × Nat)) (f : Nat) : oD m L f (pts (rs m L f)) = ovL m L f := by
  unfold oD ovL
  refine List.map_congr_left fun i hi => ?_
  have hi : i < m := by simpa using hi
  by_cases h : (rs m L f).testBit i = true
  · rw [if_pos h, if_pos ((pts_mem _ _).2 ⟨by omega, h⟩)]
  · rw [if_neg h, if_neg (fun h' => h ((pts_mem _ _).1 h').2)]
theorem over_spec (m f : Nat) (L : List (Nat × Nat)) (hpre : m ≤ 8 ∧ f < m ∧ L.length < 2 ^ 62 ∧ Good m L) : FnR Tryd.prog 102 [I .i64 (m : Int), .l (L.map lnN), I .i64 (f : Int)] 1 ((ovL m L f).map U) := by
  obtain ⟨hm, hf, hl, hg⟩ := hpre
  have hout : m ≤ 64 ∧ L.length < 2 ^ 62 ∧ ∀ p ∈ L, p.1 < m ∧ p.2 < 64 := ⟨by omega, hl, fun p hp => by have := hg p hp; omega⟩
  have hol := outS_len m L
  have hlt := outS_lt' (n := m) (by omega) hg
  have hw : 2 ^ m - 1 < 2 ^ m := by have := Nat.one_le_two_pow (n := m); omega
  have hre : f < (outS m L).length ∧ (outS m L).length ≤ 64 ∧ 2 ^ m - 1 < 2 ^ (outS m L).length ∧ ∀ x ∈ outS m L, x < 2 ^ 64 := ⟨by omega, by omega, by rw [hol]; exact hw, hlt⟩
  have hrs : reach (outS m L) (2 ^ m - 1) f < 2 ^ 64 := reach_lt hlt (by omega)
  refine FnR.go Tryd.func102 rfl rfl Tryd.results102 Tryd.ntmps102 ?_
  simp (implicitDefEqProofs := false) (dsimp := false) only [↓nthK_H, ↓nthH_zero, ↓aw_seq, ↓aw_reg, ↓Qseq_n, ↓ops_nil, ↓ops_cons, ↓eval_tmp, ↓eval_nil, ↓eval_func, ↓put_some, ↓ldK_p, ↓op_move, ↓op_assign, ↓op_load, ↓op_call, ↓op_box, isD_d, ↓fnK_f, ↓call_H, ↓callK_H, ↓allT_nil, ↓allT_cons, ↓td_d, ↓addBox_mk, ↓st_bx, ↓vcells_c, ↓one_i, ↓vone_d, ↓ty3, List.getD_cons_zero, List.getD_cons_succ, List.set_cons_zero, List.set_cons_succ, List.cons_append, List.nil_append, List.append_nil, List.map_cons, List.map_nil, List.length_cons, List.length_nil, List.all_cons, List.all_nil, Bool.true_and, Bool.and_self, Nat.reduceAdd, Nat.reduceSub, Nat.reduceMul, Nat.zero_add, List.replicate, evK_go, reduceIte, Nat.reduceEqDiff, Nat.reduceLT, and_self, true_and, Int.zero_add]
  simp (implicitDefEqProofs := false) (dsimp := false) only [out_callD, hout, below_call, ↓nthK_H, ↓nthH_zero, ↓aw_seq, ↓aw_reg, ↓Qseq_n, ↓ops_nil, ↓ops_cons, ↓eval_tmp, ↓eval_func, ↓put_some, ↓put_none, ↓iK_i, ↓dK_d, ↓ldK_p, ↓op_load, ↓op_call, ↓op_alloc, ↓op_store, ↓op_make, isD_d, ↓fnK_f, ↓call_H, ↓callK_H, ↓allT_nil, ↓allT_cons, ↓td_d, ↓addBox_mk, ↓addRow_mk, ↓setBox_mk, ↓st_bx, ↓st_rw, ↓cells_c, ↓vcells_c, ↓vcells_l, ↓vcells_nl, ↓vcells_o, ↓one_i, ↓one_l, ↓vone_d, ↓vone_o, constV_i, constV_n, ↓st_p, ↓mk_, ↓vsz_int, ↓ty3, ↓ty99, ↓sl99, ↓zb99, ↓ty102, ↓zb102, List.getD_cons_zero, List.getD_cons_succ, List.set_cons_zero, List.set_cons_succ, List.cons_append, List.nil_append, List.append_nil, List.length_cons, List.length_nil, List.all_cons, List.all_nil, Bool.and_true, Bool.true_and, Bool.and_self, Bool.true_or, Nat.reduceAdd, Nat.reduceSub, Nat.reduceMul, Nat.zero_add, Int.toNat_natCast, evK_go, reduceIte, Nat.reduceEqDiff, Nat.reduceLT, and_self, true_and, and_true, Int.zero_add, Int.natCast_nonneg]
  (repeat refine OrH.l ?_)
  refine ⟨hout.2.2, ?_⟩
  (repeat refine OrH.l ?_)
  refine ⟨by omega, ⟨by omega, by decide⟩, ?_⟩
  simp (implicitDefEqProofs := false) (dsimp := false) only [reach_call, hre, each_call, ↓aw_block, ↓aw_rng, ↓Qseq_n, ↓ops_nil, ↓ops_cons, ↓eval_tmp, ↓eval_func, ↓put_some, ↓op_call, isD_d, ↓fnK_f, ↓call_H, ↓callK_H, ↓allT_nil, ↓allT_cons, ↓td_d, List.getD_cons_zero, List.getD_cons_succ, List.set_cons_zero, List.set_cons_succ, List.append_nil, List.all_cons, List.all_nil, Bool.true_and, Bool.and_self, Bool.true_or, Nat.reduceAdd, Nat.reduceSub, Nat.reduceMul, evK_go, reduceIte, Nat.reduceEqDiff, Nat.reduceLT, and_self, true_and]
  (repeat refine OrH.l ?_)
  refine ⟨hlt, ?_⟩
  (repeat refine OrH.l ?_)
  refine rangeW (slots 59 [(3, .p 0 0), (5, .p 1 0), (7, .p 2 0), (8, .p 3 0), (9, .p 4 0), (23, .d (.f (.func 111) [.q [U (reach (outS m L) (2 ^ m - 1) f)]]))])
    (fun _ => [.d (I .i64 (m : Int)), .d (I .i64 (f : Int)), .d (.l ((outS m L).map U)), .d (U (2 ^ m - 1)), .o 0 0 m]) (fun P : List Nat => [some ⟨1, (oD m L f P).map U⟩]) (fun ys P => ys = P.map Int.ofNat) []
    (by simp [slots]) (each_iter _ hrs) ?_ rfl ?_ ?_ ?_
  · simp (implicitDefEqProofs := false) (dsimp := false) only [slots, ↓eval_tmp, List.getD_cons_zero, List.getD_cons_succ, List.set_cons_zero, List.set_cons_succ, Nat.reduceAdd, Nat.reduceSub, Nat.reduceMul, List.replicate, evK_go, reduceIte, Nat.reduceEqDiff, Nat.reduceLT, List.foldl_cons, List.foldl_nil]
  · refine Wkn.of [0, 1, 2, 3, 4] [some 0] ?_
    simp (implicitDefEqProofs := false) (dsimp := false) only [oD_nil, List.map_replicate, ↓vcells_c, ↓vcells_l, ↓vcells_o, List.getD_cons_zero, List.getD_cons_succ, List.set_cons_zero, List.set_cons_succ, List.length_cons, List.length_nil, Bool.and_true, Bool.true_and, Bool.and_self, Nat.reduceAdd, Nat.reduceSub, Nat.reduceMul, Nat.zero_add, List.replicate, evK_go, reduceIte, Nat.reduceEqDiff, Nat.reduceLT, and_self, true_and, and_true, Int.zero_add, List.foldl_cons, List.foldl_nil, slots, wkL_nil, wkL_cons, wkB_nil, wkB_cons, wkR_nil, wkR_some, wkV_j, wkV_d, wkV_o, wkV_p, frz_d, oK_zs, pK_z, pK_s, reduceCtorEq, Option.some.injEq]
    rfl
  · rintro ys x P hpx rfl
    obtain ⟨P', c, hP, rfl, hcc⟩ := prefix_map hpx
    obtain rfl : P = P' := ofNat_inj hP
    have hcm := (pts_mem _ _).1 (hcc.subset (by simp : c ∈ P ++ [c]))
    have hcb : c < m := ((rs_bit (by omega) hg hf c).1 hcm.2).lt hg hf
    have hcP : c ∉ P := fun h => by
      have hnd : (P ++ [c]).Nodup := (pts_nodup _).sublist hcc.sublist
      rw [List.nodup_append] at hnd
      exact hnd.2.2 c h c (by simp) rfl
    simp (implicitDefEqProofs := false) (dsimp := false) only [slots, ↓nthK_H, ↓nthH_zero, ↓aw_seq, ↓aw_block, ↓aw_loop, ↓aw_reg, ↓Qseq_n, ↓ops_nil, ↓ops_cons, ↓eval_tmp, ↓eval_int, ↓put_some, ↓ldK_p, ↓op_move, ↓op_assign, ↓op_load, ↓vcells_c, ↓Qn_n, ↓ty3, List.getD_cons_zero, List.getD_cons_succ, List.set_cons_zero, List.set_cons_succ, Nat.reduceAdd, Nat.reduceSub, Nat.reduceMul, List.replicate, evK_go, reduceIte, Nat.reduceEqDiff, Nat.reduceLT, List.foldl_cons, List.foldl_nil]
    refine loopW (fun k : Nat => { tm := slots 59 [(3, .p 0 0), (5, .p 1 0), (7, .p 2 0), (8, .p 3 0), (9, .p 4 0), (10, .d (I .i64 (c : Int))), (25, .d (I .i64 (m : Int))), (26, .d (I .i64 (k : Int)))], bx := [.d (I .i64 (m : Int)), .d (I .i64 (f : Int)), .d (.l ((outS m L).map U)), .d (U (2 ^ m - 1)), .o 0 0 m], rw := [some ⟨1, ((oD m L f P).set c (ovP m L f c k)).map U⟩], gh := slots 59 [(3, .p 0 0), (5, .p 1 0), (7, .p 2 0), (8, .p 3 0), (9, .p 4 0), (23, .d (.f (.func 111) [.q [U (reach (outS m L) (2 ^ m - 1) f)]]))] })
      (fun k => k ≤ m) (fun k => m - k) 0 (by simp) ?_ ?_
    · refine Wkn.of [0, 1, 2, 3, 4] [some 0] ?_
      simp (implicitDefEqProofs := false) (dsimp := false) only [oD_same L f hcP, ↓vcells_c, ↓vcells_l, ↓vcells_o, List.getD_cons_zero, List.getD_cons_succ, List.set_cons_zero, List.set_cons_succ, List.length_cons, List.length_nil, Bool.and_self, Nat.reduceAdd, Nat.reduceSub, Nat.reduceMul, Nat.zero_add, List.replicate, evK_go, reduceIte, Nat.reduceEqDiff, Nat.reduceLT, and_self, Int.zero_add, List.foldl_cons, List.foldl_nil, Int.cast_ofNat_Int, slots, wkL_nil, wkL_cons, wkB_nil, wkB_cons, wkR_nil, wkR_some, wkV_j, wkV_d, wkV_o, wkV_p, frz_d, oK_zs, pK_z, pK_s, reduceCtorEq]
    · intro k hk
      simp (implicitDefEqProofs := false) (dsimp := false) only [slots, ↓aw_cond, ↓aw_seq, ↓aw_reg, ↓Qseq_n, ↓ops_nil, ↓ops_cons, ↓eval_tmp, ↓put_some, ↓bK_b, ↓binE_i, ↓bi_lss, ↓op_bin, List.getD_cons_zero, List.getD_cons_succ, List.set_cons_zero, List.set_cons_succ, Nat.reduceAdd, Nat.reduceSub, Nat.reduceMul, List.replicate, evK_go, reduceIte, Nat.reduceEqDiff, Nat.reduceLT, List.foldl_cons, List.foldl_nil, Int.ofNat_lt]
      refine cdK_dec (fun h => ?_) (fun h => ?_)
      · have hk64 : k < 64 := by omega
        have hwk := dif_lt (n := 2 ^ k) hw
        have hwk64 : 2 ^ m - 1 < 2 ^ 64 := Nat.lt_of_lt_of_le hw (Nat.pow_le_pow_right (by omega) (by omega))
        have hrek : f < (outS m L).length ∧ (outS m L).length ≤ 64 ∧ dif (2 ^ m - 1) (2 ^ k) < 2 ^ (outS m L).length ∧ ∀ x ∈ outS m L, x < 2 ^ 64 := ⟨by omega, by omega, by rw [hol]; exact hwk, hlt⟩
        have hrk : reach (outS m L) (dif (2 ^ m - 1) (2 ^ k)) f < 2 ^ 64 := reach_lt hlt (by omega)
        have hov := ovP_lt m L f c (k := k) (by omega)
        have hsl : ((oD m L f P).set c (ovP m L f c k)).length = m := by simp [oD_len]
        have hsg : ((oD m L f P).set c (ovP m L f c k)).getD c default = ovP m L f c k := by rw [set_getD, if_pos ⟨rfl, by rw [oD_len]; exact hcb⟩]
        simp (implicitDefEqProofs := false) (dsimp := false) only [↓gdK_f, ↓gval_mk, ↓gvL_zero, ↓gvL_succ, ↓aw_seq, ↓aw_block, ↓aw_skip, ↓aw_reg, ↓aw_draw, ↓Qseq_n, ↓ops_nil, ↓ops_cons, ↓eval_tmp, ↓put_some, ↓ev_move, ↓ev_bin, ↓binE_i, ↓bi_eql, ↓op_move, ↓op_assign, ↓draw_H, ↓h_cons, ↓ldH_n, ↓ldH_g, ↓q_move, ↓q_bin, ↓il_move, ↓il_bin, ↓st_tm, List.getD_cons_zero, List.getD_cons_succ, List.set_cons_zero, List.set_cons_succ, Nat.reduceAdd, Nat.reduceSub, Nat.reduceMul, evK_go, reduceIte, Nat.reduceEqDiff, Nat.reduceLT, Int.natCast_inj]
        refine OrH.l ⟨DrawH.of follows_mixed (by kernel_rfl), ?_⟩
        have fin : ∀ b : Bool, ovC m L f c k = b → ovP m L f c (k + 1) = if b then ovP m L f c k ||| 2 ^ k else ovP m L f c k := fun b hb => by rw [ovP_succ, hb]
        have er : ∀ x, (List.map U ((oD m L f P).set c (ovP m L f c k))).set c (U x) = List.map U ((oD m L f P).set c x) := fun x => by rw [← List.map_set, List.set_set]
        refine cdK_dec (fun h1 => ?_) (fun h1 => ?_)
        · have hd : decide (k = c) = true := decide_eq_true h1
          have e : ovP m L f c (k + 1) = ovP m L f c k ||| 2 ^ k := fin true (by simp [ovC, h1])
          simp (implicitDefEqProofs := false) (dsimp := false) only [hd, hcb, hsl, hsg, with_callQ, hov, hk64, ↓cdK_true, ↓gdK_f, ↓gval_mk, ↓gvL_zero, ↓gvL_succ, ↓optK_some, ↓rwK_mk_, ↓atK_H, ↓atH_map, ↓nthK_H, ↓nthH_zero, ↓aw_cond, ↓aw_reg, ↓aw_draw, ↓Qseq_n, ↓Qblk_n, ↓ops_nil, ↓ops_cons, ↓eval_tmp, ↓eval_int, ↓eval_bool, ↓eval_func, ↓put_some, ↓put_none, ↓bK_b, ↓iK_i, ↓dK_d, ↓ev_move, ↓ev_pick, ↓ev_load, ↓ev_ia, ↓binE_i, ↓bi_add, ↓in_i64, ↓ldK_p, ↓ldK_e, ↓iaK_o, ↓op_move, ↓op_bin, ↓op_store, isD_d, ↓fnK_f, ↓callKQ_H, ↓allT_nil, ↓allT_cons, ↓td_d, ↓draw_H, ↓h_nil, ↓h_cons, ↓ldH_t, ↓ldH_n, ↓ldH_g, ↓q_call, ↓q_move, ↓q_pick, ↓q_load, ↓q_ia, ↓il_move, ↓il_pick, ↓il_load, ↓il_bin, ↓il_un, ↓il_ia, ↓il_call, ↓il_store, ↓setRow_mk, ↓st_tm, ↓row_sz, ↓row_xs, ↓cells_c, ↓vcells_o, ↓one_i, ↓st_e, ↓ty99, ↓sl99, ↓ty102, List.getD_cons_zero, List.getD_cons_succ, List.set_cons_zero, List.set_cons_succ, List.append_nil, List.length_cons, List.length_nil, List.all_cons, List.all_nil, Bool.true_and, Bool.and_self, Bool.true_or, Nat.reduceAdd, Nat.reduceSub, Nat.reduceMul, Nat.zero_add, Int.toNat_natCast, evK_go, reduceIte, Nat.reduceEqDiff, Nat.reduceLT, and_self, true_and, Int.zero_add, Int.ofNat_lt, Int.natCast_nonneg]
          refine OrH.l ⟨DrawH.of follows_mixed (by kernel_rfl), ?_⟩
          (repeat refine OrH.l ?_)
          refine ⟨by omega, k + 1, by omega, by omega, ?_⟩
          refine Wkn.of [0, 1, 2, 3, 4] [some 0] ?_
          simp (implicitDefEqProofs := false) (dsimp := false) only [e, er, ↓vcells_c, ↓vcells_l, ↓vcells_o, List.getD_cons_zero, List.getD_cons_succ, List.set_cons_zero, List.set_cons_succ, List.length_cons, List.length_nil, Bool.and_self, Nat.reduceAdd, Nat.reduceSub, Nat.reduceMul, Nat.zero_add, List.replicate, evK_go, reduceIte, Nat.reduceEqDiff, Nat.reduceLT, and_self, Int.zero_add, List.foldl_cons, List.foldl_nil, Int.cast_ofNat_Int, Int.natCast_add, slots, wkL_nil, wkL_cons, wkB_nil, wkB_cons, wkR_nil, wkR_some, wkV_j, wkV_d, wkV_o, wkV_p, frz_d, oK_zs, pK_z, pK_s, reduceCtorEq]
        · have hd : decide (k = c) = false := decide_eq_false h1
          simp (implicitDefEqProofs := false) (dsimp := false) only [hd, ↓cdK_false, ↓gdK_f, ↓gval_mk, ↓gvL_zero, ↓gvL_succ, ↓nthK_H, ↓nthH_zero, ↓eval_tmp, ↓put_some, ↓bK_b, ↓ev_move, ↓ev_pick, ↓ev_load, ↓ev_bin, ↓binE_i, ↓bi_eql, ↓ldK_p, ↓h_cons, ↓ldH_n, ↓ldH_g, ↓q_move, ↓q_pick, ↓q_load, ↓q_bin, ↓il_move, ↓il_pick, ↓il_load, ↓il_bin, ↓st_tm, ↓vcells_c, ↓ty3, List.getD_cons_zero, List.getD_cons_succ, List.set_cons_zero, List.set_cons_succ, Nat.reduceAdd, Nat.reduceSub, Nat.reduceMul, evK_go, reduceIte, Nat.reduceEqDiff, Nat.reduceLT, Int.natCast_inj]
          refine cdK_dec (fun h2 => ?_) (fun h2 => ?_)
          · have hd2 : decide (k = f) = true := decide_eq_true h2
            have e : ovP m L f c (k + 1) = ovP m L f c k ||| 2 ^ k := fin true (by simp [ovC, h2])
            simp (implicitDefEqProofs := false) (dsimp := false) only [hd2, hcb, hsl, hsg, with_callQ, hov, hk64, ↓cdK_true, ↓gdK_f, ↓gval_mk, ↓gvL_zero, ↓gvL_succ, ↓optK_some, ↓rwK_mk_, ↓atK_H, ↓atH_map, ↓nthK_H, ↓nthH_zero, ↓aw_cond, ↓aw_reg, ↓aw_draw, ↓Qseq_n, ↓Qblk_n, ↓ops_nil, ↓ops_cons, ↓eval_tmp, ↓eval_int, ↓eval_bool, ↓eval_func, ↓put_some, ↓put_none, ↓bK_b, ↓iK_i, ↓dK_d, ↓ev_move, ↓ev_pick, ↓ev_load, ↓ev_ia, ↓binE_i, ↓bi_add, ↓in_i64, ↓ldK_p, ↓ldK_e, ↓iaK_o, ↓op_move, ↓op_bin, ↓op_store, isD_d, ↓fnK_f, ↓callKQ_H, ↓allT_nil, ↓allT_cons, ↓td_d, ↓draw_H, ↓h_nil, ↓h_cons, ↓ldH_t, ↓ldH_n, ↓ldH_g, ↓q_call, ↓q_move, ↓q_pick, ↓q_load, ↓q_ia, ↓il_move, ↓il_pick, ↓il_load, ↓il_un, ↓il_ia, ↓il_call, ↓il_store, ↓setRow_mk, ↓st_tm, ↓row_sz, ↓row_xs, ↓cells_c, ↓vcells_o, ↓one_i, ↓st_e, ↓ty99, ↓sl99, ↓ty102, List.getD_cons_zero, List.getD_cons_succ, List.set_cons_zero, List.set_cons_succ, List.append_nil, List.length_cons, List.length_nil, List.all_cons, List.all_nil, Bool.true_and, Bool.and_self, Bool.true_or, Nat.reduceAdd, Nat.reduceSub, Nat.reduceMul, Nat.zero_add, Int.toNat_natCast, evK_go, reduceIte, Nat.reduceEqDiff, Nat.reduceLT, and_self, true_and, Int.zero_add, Int.ofNat_lt, Int.natCast_nonneg]
            refine OrH.l ⟨DrawH.of follows_mixed (by kernel_rfl), ?_⟩
            (repeat refine OrH.l ?_)
            refine ⟨by omega, k + 1, by omega, by omega, ?_⟩
            refine Wkn.of [0, 1, 2, 3, 4] [some 0] ?_
            simp (implicitDefEqProofs := false) (dsimp := false) only [e, er, ↓vcells_c, ↓vcells_l, ↓vcells_o, List.getD_cons_zero, List.getD_cons_succ, List.set_cons_zero, List.set_cons_succ, List.length_cons, List.length_nil, Bool.and_self, Nat.reduceAdd, Nat.reduceSub, Nat.reduceMul, Nat.zero_add, List.replicate, evK_go, reduceIte, Nat.reduceEqDiff, Nat.reduceLT, and_self, Int.zero_add, List.foldl_cons, List.foldl_nil, Int.cast_ofNat_Int, Int.natCast_add, slots, wkL_nil, wkL_cons, wkB_nil, wkB_cons, wkR_nil, wkR_some, wkV_j, wkV_d, wkV_o, wkV_p, frz_d, oK_zs, pK_z, pK_s, reduceCtorEq]
          · have hd2 : decide (k = f) = false := decide_eq_false h2
            have hc64 : c ≤ 64 := by omega
            simp (implicitDefEqProofs := false) (dsimp := false) only [hd2, without_callQ, reach_callQ, hasS_callQ, hwk64, hk64, hrek, hrk, hc64, ↓cdK_false, ↓cdK_not, ↓gdK_f, ↓gval_mk, ↓gvL_zero, ↓gvL_succ, ↓nthK_H, ↓nthH_zero, ↓aw_cond, ↓Qseq_n, ↓eval_tmp, ↓eval_func, ↓put_some, ↓bK_b, ↓ev_move, ↓ev_pick, ↓ev_load, ↓ev_not, ↓ldK_p, isD_d, ↓fnK_f, ↓callKQ_H, ↓allT_nil, ↓allT_cons, ↓td_d, ↓h_nil, ↓h_cons, ↓ldH_n, ↓ldH_g, ↓q_call, ↓q_move, ↓q_pick, ↓q_load, ↓q_un, ↓il_move, ↓il_pick, ↓il_load, ↓il_un, ↓il_call, ↓st_tm, ↓vcells_c, ↓vcells_l, ↓ty3, ↓ty99, ↓ty102, List.getD_cons_zero, List.getD_cons_succ, List.set_cons_zero, List.set_cons_succ, List.append_nil, List.all_cons, List.all_nil, Bool.true_and, Bool.and_self, Bool.true_or, Nat.reduceAdd, Nat.reduceSub, Nat.reduceMul, evK_go, reduceIte, Nat.reduceEqDiff, Nat.reduceLT, and_self, true_and]
            (repeat refine OrH.l ?_)
            refine ⟨hlt, ?_⟩
            (repeat refine OrH.l ?_)
            refine cdK_split (fun h3 => ?_) (fun h3 => ?_)
            · have e : ovP m L f c (k + 1) = ovP m L f c k := fin false (by simp [ovC, h1, h2, h3])
              simp (implicitDefEqProofs := false) (dsimp := false) only [h3, ↓aw_skip, ↓aw_reg, ↓Qseq_n, ↓Qblk_n, ↓ops_nil, ↓ops_cons, ↓eval_tmp, ↓eval_int, ↓put_some, ↓binE_i, ↓bi_add, ↓in_i64, ↓op_move, ↓op_bin, List.getD_cons_zero, List.getD_cons_succ, List.set_cons_zero, List.set_cons_succ, Nat.reduceAdd, Nat.reduceSub, Nat.reduceMul, evK_go, reduceIte, Bool.not_true, Nat.reduceEqDiff, Nat.reduceLT]
              refine ⟨by omega, k + 1, by omega, by omega, ?_⟩
              refine Wkn.of [0, 1, 2, 3, 4] [some 0] ?_
              simp (implicitDefEqProofs := false) (dsimp := false) only [e, ↓vcells_c, ↓vcells_l, ↓vcells_o, List.getD_cons_zero, List.getD_cons_succ, List.set_cons_zero, List.set_cons_succ, List.length_cons, List.length_nil, Bool.and_self, Nat.reduceAdd, Nat.reduceSub, Nat.reduceMul, Nat.zero_add, List.replicate, evK_go, reduceIte, Nat.reduceEqDiff, Nat.reduceLT, and_self, Int.zero_add, List.foldl_cons, List.foldl_nil, Int.cast_ofNat_Int, Int.natCast_add, slots, wkL_nil, wkL_cons, wkB_nil, wkB_cons, wkR_nil, wkR_some, wkV_j, wkV_d, wkV_o, wkV_p, frz_d, oK_zs, pK_z, pK_s, reduceCtorEq]
            · have e : ovP m L f c (k + 1) = ovP m L f c k ||| 2 ^ k := fin true (by simp [ovC, h3])
              simp (implicitDefEqProofs := false) (dsimp := false) only [h3, hcb, hsl, hsg, with_callQ, hov, hk64, ↓optK_some, ↓rwK_mk_, ↓atK_H, ↓atH_map, ↓nthK_H, ↓nthH_zero, ↓aw_reg, ↓aw_draw, ↓Qseq_n, ↓Qblk_n, ↓ops_nil, ↓ops_cons, ↓eval_tmp, ↓eval_int, ↓eval_func, ↓put_some, ↓put_none, ↓iK_i, ↓dK_d, ↓ev_move, ↓ev_load, ↓ev_ia, ↓binE_i, ↓bi_add, ↓in_i64, ↓ldK_p, ↓ldK_e, ↓iaK_o, ↓op_move, ↓op_bin, ↓op_store, isD_d, ↓fnK_f, ↓callKQ_H, ↓allT_nil, ↓allT_cons, ↓td_d, ↓draw_H, ↓h_cons, ↓ldH_t, ↓ldH_n, ↓q_call, ↓q_move, ↓q_load, ↓q_ia, ↓il_move, ↓il_load, ↓il_ia, ↓il_call, ↓il_store, ↓setRow_mk, ↓row_sz, ↓row_xs, ↓cells_c, ↓vcells_o, ↓one_i, ↓st_e, ↓ty99, ↓sl99, ↓ty102, List.getD_cons_zero, List.getD_cons_succ, List.set_cons_zero, List.set_cons_succ, List.append_nil, List.length_cons, List.length_nil, List.all_cons, List.all_nil, Bool.true_and, Bool.and_self, Bool.true_or, Nat.reduceAdd, Nat.reduceSub, Nat.reduceMul, Nat.zero_add, Int.toNat_natCast, evK_go, reduceIte, Bool.not_false, Nat.reduceEqDiff, Nat.reduceLT, and_self, true_and, Int.zero_add, Int.ofNat_lt, Int.natCast_nonneg]
              refine OrH.l ⟨DrawH.of follows_mixed (by kernel_rfl), ?_⟩
              (repeat refine OrH.l ?_)
              refine ⟨by omega, k + 1, by omega, by omega, ?_⟩
              refine Wkn.of [0, 1, 2, 3, 4] [some 0] ?_
              simp (implicitDefEqProofs := false) (dsimp := false) only [e, er, ↓vcells_c, ↓vcells_l, ↓vcells_o, List.getD_cons_zero, List.getD_cons_succ, List.set_cons_zero, List.set_cons_succ, List.length_cons, List.length_nil, Bool.and_self, Nat.reduceAdd, Nat.reduceSub, Nat.reduceMul, Nat.zero_add, List.replicate, evK_go, reduceIte, Nat.reduceEqDiff, Nat.reduceLT, and_self, Int.zero_add, List.foldl_cons, List.foldl_nil, Int.cast_ofNat_Int, Int.natCast_add, slots, wkL_nil, wkL_cons, wkB_nil, wkB_cons, wkR_nil, wkR_some, wkV_j, wkV_d, wkV_o, wkV_p, frz_d, oK_zs, pK_z, pK_s, reduceCtorEq]
      · obtain rfl : k = m := by omega
        simp (implicitDefEqProofs := false) (dsimp := false) only [↓optK_some, ↓rwK_mk_, ↓nthK_H, ↓nthH_zero, ↓aw_seq, ↓aw_exit, ↓aw_ret, ↓aw_reg, ↓Qseq_n, ↓Qseq_x, ↓Qblk_n, ↓Qblk_x, ↓ops_nil, ↓ops_cons, ↓eval_tmp, ↓put_some, ↓ldK_p, ↓op_assign, ↓op_load, ↓row_sz, ↓row_xs, ↓vcells_o, ↓Qrow_r, ↓rowK_o, ↓Qrd_n, ↓Qrd_x, ↓back_mk, ↓ty99, List.getD_cons_zero, List.getD_cons_succ, List.set_cons_zero, List.set_cons_succ, Bool.true_and, Nat.reduceAdd, Nat.reduceSub, Nat.reduceMul, evK_go, reduceIte, Nat.reduceEqDiff, Nat.reduceLT, true_and]
        refine ⟨P ++ [c], by simp, ?_⟩
        refine Wkn.of [0, 1, 2, 3, 4] [some 0] ?_
        simp (implicitDefEqProofs := false) (dsimp := false) only [oD_snoc, ↓vcells_c, ↓vcells_l, ↓vcells_o, List.getD_cons_zero, List.getD_cons_succ, List.set_cons_zero, List.set_cons_succ, List.length_cons, List.length_nil, Bool.and_self, Nat.reduceAdd, Nat.reduceSub, Nat.reduceMul, Nat.zero_add, List.replicate, evK_go, reduceIte, Nat.reduceEqDiff, Nat.reduceLT, and_self, Int.zero_add, List.foldl_cons, List.foldl_nil, slots, wkL_nil, wkL_cons, wkB_nil, wkB_cons, wkR_nil, wkR_some, wkV_j, wkV_d, wkV_o, wkV_p, frz_d, oK_zs, pK_z, pK_s, reduceCtorEq]
  · rintro P hP
    obtain rfl : pts (rs m L f) = P := ofNat_inj hP
    simp (implicitDefEqProofs := false) (dsimp := false) only [slots, oD_end (by omega : m ≤ 64) L f, ↓optK_some, ↓rwK_mk_, ↓nthK_H, ↓nthH_zero, ↓aw_seq, ↓aw_ret, ↓aw_reg, ↓Qseq_n, ↓Qblk_n, ↓ops_nil, ↓ops_cons, ↓eval_tmp, ↓put_some, ↓ldK_p, ↓op_assign, ↓op_load, ↓row_sz, ↓row_xs, ↓vcells_o, ↓Qrow_r, ↓rowK_o, ↓ty99, List.getD_cons_zero, List.getD_cons_succ, List.set_cons_zero, List.set_cons_succ, Bool.true_and, Nat.reduceAdd, Nat.reduceSub, Nat.reduceMul, List.replicate, evK_go, reduceIte, Nat.reduceEqDiff, Nat.reduceLT, true_and, List.foldl_cons, List.foldl_nil]
    exact List.take_of_length_le (by simp [ovL_len])
theorem over_callD (m f : Nat) (L : List (Nat × Nat)) (pure : Bool) (σ : St) (dst : Option Tmp) (K : St → Prop) : CallH Tryd.prog 102 [I .i64 (m : Int), .l (L.map lnN), I .i64 (f : Int)] pure σ dst (.mk : Hid K) = OrH ((m ≤ 8 ∧ f < m ∧ L.length < 2 ^ 62 ∧ Good m L) ∧ (pure || D.flat (.l ((ovL m L f).map U))) = true ∧ evK (σ.put dst (.d (.l ((ovL m L f).map U)))) (.mk : Hid K)) (.mk : Hid (CallH Tryd.prog 102 [I .i64 (m : Int), .l (L.map lnN), I .i64 (f : Int)] pure σ dst (.mk : Hid K))) := CallH.eq (fun h => ((fun h => over_spec m f L h) h).data) pure σ dst K
/-- What is wrong with lines and a point. -/
def domE (n : Int) (l : List (Int × Int)) (f : Int) : Int := if chk n l = 0 then (if inB f 0 (n - 1) then 0 else 1) else chk n l
def domOf (n : Int) (l : List (Int × Int)) (f : Int) : List (List Int) := if domE n l f = 0 then (ovL n.toNat (natL l) f.toNat).map ptsI else []
def domLast (n : Int) (l : List (Int × Int)) (f : Int) : List Int := if domE n l f = 0 then lastL n.toNat (ovL n.toNat (natL l) f.toNat) else []
theorem dof_spec (n : Int) (l : List (Int × Int)) (f : Int) (hpre : l.length < 2 ^ 62) : FnD Tryd.prog 67 [I .i64 n, .l (l.map lnD), I .i64 f] (.t [.l ((domOf n l f).map liD), erD (domE n l f)]) := by
  refine FnD.go Tryd.func67 rfl rfl Tryd.results67 Tryd.ntmps67 ?_
  simp (implicitDefEqProofs := false) (dsimp := false) only [↓aw_seq, ↓aw_reg, ↓Qseq_n, ↓ops_nil, ↓ops_cons, ↓eval_tmp, ↓eval_nil, ↓eval_func, ↓put_some, ↓op_move, ↓op_assign, ↓op_call, isD_d, ↓fnK_f, ↓call_H, ↓callK_H, ↓allT_nil, ↓allT_cons, ↓td_d, List.getD_cons_zero, List.getD_cons_succ, List.set_cons_zero, List.set_cons_succ, List.cons_append, List.nil_append, List.append_nil, List.map_cons, List.map_nil, List.length_cons, List.length_nil, List.all_cons, List.all_nil, Bool.and_self, Nat.reduceAdd, Nat.reduceSub, Nat.reduceMul, Nat.zero_add, List.replicate, evK_go, reduceIte, Nat.reduceEqDiff, Nat.reduceLT, and_self, Int.zero_add]
  simp (implicitDefEqProofs := false) (dsimp := false) only [gcheck_call, eval_nilI, ↓er_neq, er_flat, ↓cdK_not, ↓aw_cond, ↓aw_seq, ↓aw_reg, ↓Qseq_n, ↓ops_nil, ↓ops_cons, ↓eval_tmp, ↓put_some, ↓bK_b, ↓op_move, ↓op_assign, ↓op_bin, List.getD_cons_zero, List.getD_cons_succ, List.set_cons_zero, List.set_cons_succ, Bool.true_and, Bool.or_true, Nat.reduceAdd, Nat.reduceSub, Nat.reduceMul, evK_go, reduceIte, Nat.reduceEqDiff, Nat.reduceLT, true_and]
  refine OrH.l (OrH.l ⟨hpre, ?_⟩)
  refine cdK_dec (fun hc => ?_) (fun hc => ?_)
  rotate_left
  · have e : domE n l f = chk n l := if_neg hc
    have e2 : domOf n l f = [] := if_neg (by rw [e]; exact hc)
    simp (implicitDefEqProofs := false) (dsimp := false) only [e, e2, ↓aw_seq, ↓aw_ret, ↓aw_reg, ↓Qseq_n, ↓Qseq_r, ↓Qret_r, ↓ops_nil, ↓ops_cons, ↓eval_tmp, ↓eval_nil, ↓put_some, ↓op_move, ↓op_assign, ↓td_d, ↓td_nl, ↓ret_2, List.getD_cons_zero, List.getD_cons_succ, List.set_cons_zero, List.set_cons_succ, List.map_nil, Nat.reduceAdd, Nat.reduceSub, Nat.reduceMul, evK_go, reduceIte, Nat.reduceEqDiff, Nat.reduceLT]
  have ok := chk_ok hc
  have h8 := ok.hi
  have hlo := ok.lo
  have e0 := ok.n0
  simp (implicitDefEqProofs := false) (dsimp := false) only [within_call, ↓cdK_not, ↓aw_cond, ↓aw_seq, ↓aw_skip, ↓aw_reg, ↓Qseq_n, ↓ops_nil, ↓ops_cons, ↓eval_tmp, ↓eval_int, ↓eval_func, ↓put_some, ↓bK_b, ↓binE_i, ↓bi_sub, ↓in_i64, ↓op_move, ↓op_bin, ↓op_not, ↓op_call, isD_d, ↓fnK_f, ↓call_H, ↓callK_H, ↓allT_nil, ↓allT_cons, ↓td_d, List.getD_cons_zero, List.getD_cons_succ, List.set_cons_zero, List.set_cons_succ, List.append_nil, List.all_cons, List.all_nil, Bool.true_and, Bool.and_self, Bool.true_or, Nat.reduceAdd, Nat.reduceSub, Nat.reduceMul, evK_go, reduceIte, Nat.reduceEqDiff, Nat.reduceLT, and_self, true_and]
  refine ⟨by omega, ?_⟩
  (repeat refine OrH.l ?_)
  refine cdK_split (fun hf => ?_) (fun hf => ?_)
  rotate_left
  · have e : domE n l f = 1 := by unfold domE; rw [if_pos hc, hf]; rfl
    have e2 : domOf n l f = [] := if_neg (by rw [e]; decide)
    simp (implicitDefEqProofs := false) (dsimp := false) only [e, e2, nc108, erD_1, ↓aw_seq, ↓aw_ret, ↓aw_reg, ↓Qseq_n, ↓Qseq_r, ↓Qret_r, ↓ops_nil, ↓ops_cons, ↓eval_tmp, ↓eval_int, ↓eval_nil, ↓put_some, ↓vK_c, ↓op_assign, ↓op_iface, ↓td_d, ↓td_nl, ↓ret_2, ↓nc108, List.getD_cons_zero, List.getD_cons_succ, List.set_cons_zero, List.set_cons_succ, List.map_nil, Bool.and_self, Nat.reduceAdd, Nat.reduceSub, Nat.reduceMul, evK_go, reduceIte, Nat.reduceEqDiff, Nat.reduceLT, and_self]
  have e : domE n l f = 0 := by unfold domE; rw [if_pos hc, hf]; rfl
  rw [show domOf n l f = (ovL n.toNat (natL l) f.toNat).map ptsI from if_pos e, e, lnD_nat ok.rng]
  have hcr := ok.cr
  have hff : 0 ≤ f ∧ f ≤ n - 1 := by simpa [inB] using hf
  obtain ⟨x, rfl⟩ := Int.eq_ofNat_of_zero_le hff.1
  clear ok hc hf e
  generalize n.toNat = m at *
  subst e0
  generalize natL l = L at *
  have hov : m ≤ 8 ∧ x < m ∧ L.length < 2 ^ 62 ∧ Good m L := ⟨h8, by omega, hcr.2.1, hcr.2.2⟩
  rw [Int.toNat_natCast]
  have hwl := ovL_len m L x
  have hwt := ovL_lt (n := m) (by omega) L x
  simp (implicitDefEqProofs := false) (dsimp := false) only [over_callD, hov, ↓aw_seq, ↓aw_block, ↓aw_skip, ↓aw_loop, ↓aw_reg, ↓Qseq_n, ↓ops_nil, ↓ops_cons, ↓eval_tmp, ↓eval_int, ↓eval_nil, ↓eval_func, ↓put_some, ↓lenK_l, ↓op_move, ↓op_assign, ↓op_len, ↓op_call, isD_d, ↓fnK_f, ↓call_H, ↓callK_H, ↓allT_nil, ↓allT_cons, ↓td_d, ↓sl99, List.getD_cons_zero, List.getD_cons_succ, List.set_cons_zero, List.set_cons_succ, List.append_nil, List.length_map, List.all_cons, List.all_nil, Bool.true_and, Bool.and_self, Bool.true_or, Nat.reduceAdd, Nat.reduceSub, Nat.reduceMul, evK_go, reduceIte, Nat.reduceEqDiff, Nat.reduceLT, and_self, true_and]
  (repeat refine OrH.l ?_)
  generalize ovL m L x = W at hwl hwt ⊢
  simp (implicitDefEqProofs := false) (dsimp := false) only [hwl]
  refine loopW (fun k : Nat => { tm := slots 40 [(9, .o 0 0 k), (27, .d (.l (W.map U))), (28, .d (I .i64 (m : Int))), (29, .d (I .i64 k))], bx := [], rw := [some ⟨1, ((W.take k).map ptsI).map liD⟩] })
    (fun k => k ≤ m) (fun k => m - k) 0 (by simp) ?_ ?_
  · refine Wkn.of [] [none] ?_
    simp (implicitDefEqProofs := false) (dsimp := false) only [↓row_xs, List.set_cons_zero, List.set_cons_succ, List.map_nil, Bool.and_self, Nat.reduceAdd, Nat.reduceSub, Nat.reduceMul, List.replicate, evK_go, reduceIte, Nat.reduceEqDiff, Nat.reduceLT, and_self, List.take_zero, List.foldl_cons, List.foldl_nil, Int.cast_ofNat_Int, slots, wkL_nil, wkL_cons, wkB_nil, wkR_nil, wkR_new, wkV_j, wkV_d, nlK_nl, wkV_o, frz_d, oK_zn, reduceCtorEq]
  · intro k hk
    simp (implicitDefEqProofs := false) (dsimp := false) only [slots, ↓aw_cond, ↓aw_seq, ↓aw_reg, ↓Qseq_n, ↓ops_nil, ↓ops_cons, ↓eval_tmp, ↓put_some, ↓bK_b, ↓binE_i, ↓bi_lss, ↓op_bin, List.getD_cons_zero, List.getD_cons_succ, List.set_cons_zero, List.set_cons_succ, Nat.reduceAdd, Nat.reduceSub, Nat.reduceMul, List.replicate, evK_go, reduceIte, Nat.reduceEqDiff, Nat.reduceLT, List.foldl_cons, List.foldl_nil, Int.ofNat_lt]
    refine cdK_dec (fun h => ?_) (fun h => ?_)
    · have hkW : k < W.length := by omega
      have hlt := hwt _ (getD_mem hkW)
      simp (implicitDefEqProofs := false) (dsimp := false) only [h, hkW, hlt, list_callD, ↓optK_some, ↓rwK_mk_, ↓atK_H, ↓atH_map, ↓aw_seq, ↓aw_block, ↓aw_skip, ↓aw_reg, ↓Qseq_n, ↓Qblk_n, ↓ops_nil, ↓ops_cons, ↓eval_tmp, ↓eval_int, ↓eval_func, ↓put_some, ↓iK_i, ↓dK_d, ↓binE_i, ↓bi_add, ↓in_i64, ↓ldK_q, ↓iaK_l, ↓op_move, ↓op_assign, ↓op_load, ↓op_bin, ↓op_ia, ↓op_append, ↓op_call, isD_d, ↓fnK_f, ↓call_H, ↓callK_H, ↓allT_nil, ↓allT_cons, ↓allD_nil, ↓allD_cons, ↓td_d, ↓app_mk, ↓row_sz, ↓row_xs, kill_d, kill_j, kill_o, ↓cells_c, ↓cells_l, ↓one_l, ↓ap_, ↓ap_o, ↓src_l, ↓bs_, ↓op_bs, ↓bsL_f, ↓stored_mk, ↓sl_nil, ↓sl_cons, ↓sT_move, ↓sT_assign, ↓sT_bs, ↓sT_call, ↓vsz_slice, ↓inO_1, ↓fm_nil, ↓fm_cons, ↓hd_cons, ↓ty24, ↓zb24, ↓sl69, ↓sl99, ↓ty102, List.getD_cons_zero, List.getD_cons_succ, List.set_cons_zero, List.set_cons_succ, List.append_nil, List.map_cons, List.map_nil, List.length_cons, List.length_nil, List.length_map, List.all_cons, List.all_nil, Bool.true_and, Bool.and_self, Bool.true_or, Bool.or_false, Nat.reduceAdd, Nat.reduceSub, Nat.reduceMul, Nat.zero_add, Int.toNat_natCast, evK_go, reduceIte, decide_true, Nat.reduceEqDiff, Nat.reduceLT, and_self, true_and, Int.zero_add, List.drop_zero, Int.natCast_nonneg]
      refine OrH.l (OrH.l ⟨by decide, ⟨fun _ => trivial, by simp; omega, by omega, by omega⟩, by omega, k + 1, by omega, by omega, ?_⟩)
      refine Wkn.of [] [some 0] ?_
      simp (implicitDefEqProofs := false) (dsimp := false) only [take_succ_getD hkW, List.map_append, liD, List.getD_cons_zero, List.set_cons_zero, List.set_cons_succ, List.map_cons, List.map_nil, Bool.and_self, Nat.reduceAdd, Nat.reduceSub, Nat.reduceMul, List.replicate, evK_go, reduceIte, Nat.reduceEqDiff, Nat.reduceLT, and_self, List.foldl_cons, List.foldl_nil, Int.cast_ofNat_Int, Int.natCast_add, slots, wkL_nil, wkL_cons, wkB_nil, wkR_nil, wkR_some, wkV_j, wkV_d, wkV_o, frz_d, oK_zs, reduceCtorEq]
    · obtain rfl : k = m := by omega
      simp (implicitDefEqProofs := false) (dsimp := false) only [eval_nilI, ↓optK_some, ↓rwK_mk_, ↓aw_seq, ↓aw_exit, ↓aw_ret, ↓aw_reg, ↓Qseq_n, ↓Qseq_x, ↓Qblk_x, ↓Qret_r, ↓ops_nil, ↓ops_cons, ↓eval_tmp, ↓put_some, ↓op_move, ↓op_assign, ↓td_d, ↓td_o, ↓ret_2, ↓row_xs, List.getD_cons_zero, List.getD_cons_succ, List.set_cons_zero, List.set_cons_succ, Nat.reduceAdd, Nat.reduceSub, Nat.reduceMul, evK_go, reduceIte, decide_false, Nat.reduceEqDiff, Nat.reduceLT, Nat.lt_irrefl, List.drop_zero]
      have e1 : W.take k = W := List.take_of_length_le (by omega)
      have e2 : List.take k (List.map liD (List.map ptsI W)) = List.map liD (List.map ptsI W) := List.take_of_length_le (by simp; omega)
      rw [e1, e2, erD_0]
theorem dof_call (n : Int) (l : List (Int × Int)) (f : Int) (pure : Bool) (σ : St) (dst : Option Tmp) (K : St → Prop) : CallH Tryd.prog 67 [I .i64 n, .l (l.map lnD), I .i64 f] pure σ dst (.mk : Hid K) = OrH ((l.length < 2 ^ 62) ∧ (pure || D.flat (.t [.l ((domOf n l f).map liD), erD (domE n l f)])) = true ∧ evK (σ.put dst (.d (.t [.l ((domOf n l f).map liD), erD (domE n l f)]))) (.mk : Hid K)) (.mk : Hid (CallH Tryd.prog 67 [I .i64 n, .l (l.map lnD), I .i64 f] pure σ dst (.mk : Hid K))) := CallH.eq (dof_spec n l f) pure σ dst K
end Go.Proofs

namespace Go.Proofs
open Go.Aw
set_option linter.unusedSimpArgs false
set_option maxRecDepth 10000
theorem best_range {all : List Nat} {m : Nat} {P : List Nat} (h : ∀ x ∈ P, x < m) : P.foldl (bestK all) (-1) = -1 ∨ ∃ x : Nat, P.foldl (bestK all) (-1) = (x : Int) ∧ x < m := by
  rcases bestK_spec all P (-1) (.inl rfl) with h1 | ⟨x, h1, h2, _⟩
  · exact .inl h1.1
  · exact .inr ⟨x, h1, h x (h2.resolve_right (by omega))⟩
def lastB (m : Nat) (W : List Nat) (k : Nat) : List Int := (List.range m).map fun i => if i < k then lastI W i else 0
theorem dlast_spec (n : Int) (l : List (Int × Int)) (f : Int) (hpre : l.length < 2 ^ 62) : FnD Tryd.prog 68 [I .i64 n, .l (l.map lnD), I .i64 f] (.t [.l ((domLast n l f).map (I .i64)), erD (domE n l f)]) := by
  refine FnD.go Tryd.func68 rfl rfl Tryd.results68 Tryd.ntmps68 ?_
  simp (implicitDefEqProofs := false) (dsimp := false) only [↓aw_seq, ↓aw_reg, ↓Qseq_n, ↓ops_nil, ↓ops_cons, ↓eval_tmp, ↓eval_nil, ↓eval_func, ↓put_some, ↓op_move, ↓op_assign, ↓op_call, isD_d, ↓fnK_f, ↓call_H, ↓callK_H, ↓allT_nil, ↓allT_cons, ↓td_d, List.getD_cons_zero, List.getD_cons_succ, List.set_cons_zero, List.set_cons_succ, List.cons_append, List.nil_append, List.append_nil, List.map_cons, List.map_nil, List.length_cons, List.length_nil, List.all_cons, List.all_nil, Bool.and_self, Nat.reduceAdd, Nat.reduceSub, Nat.reduceMul, Nat.zero_add, List.replicate, evK_go, reduceIte, Nat.reduceEqDiff, Nat.reduceLT, and_self, Int.zero_add]
  simp (implicitDefEqProofs := false) (dsimp := false) only [gcheck_call, eval_nilI, ↓er_neq, er_flat, ↓cdK_not, ↓aw_cond, ↓aw_seq, ↓aw_reg, ↓Qseq_n, ↓ops_nil, ↓ops_cons, ↓eval_tmp, ↓put_some, ↓bK_b, ↓op_move, ↓op_assign, ↓op_bin, List.getD_cons_zero, List.getD_cons_succ, List.set_cons_zero, List.set_cons_succ, Bool.true_and, Bool.or_true, Nat.reduceAdd, Nat.reduceSub, Nat.reduceMul, evK_go, reduceIte, Nat.reduceEqDiff, Nat.reduceLT, true_and]
  refine OrH.l (OrH.l ⟨hpre, ?_⟩)
  refine cdK_dec (fun hc => ?_) (fun hc => ?_)
  rotate_left
  · have e : domE n l f = chk n l := if_neg hc
    have e2 : domLast n l f = [] := if_neg (by rw [e]; exact hc)
    simp (implicitDefEqProofs := false) (dsimp := false) only [e, e2, ↓aw_seq, ↓aw_ret, ↓aw_reg, ↓Qseq_n, ↓Qseq_r, ↓Qret_r, ↓ops_nil, ↓ops_cons, ↓eval_tmp, ↓eval_nil, ↓put_some, ↓op_move, ↓op_assign, ↓td_d, ↓td_nl, ↓ret_2, List.getD_cons_zero, List.getD_cons_succ, List.set_cons_zero, List.set_cons_succ, List.map_nil, Nat.reduceAdd, Nat.reduceSub, Nat.reduceMul, evK_go, reduceIte, Nat.reduceEqDiff, Nat.reduceLT]
  have ok := chk_ok hc
  have h8 := ok.hi
  have hlo := ok.lo
  have e0 := ok.n0
  simp (implicitDefEqProofs := false) (dsimp := false) only [within_call, ↓cdK_not, ↓aw_cond, ↓aw_seq, ↓aw_skip, ↓aw_reg, ↓Qseq_n, ↓ops_nil, ↓ops_cons, ↓eval_tmp, ↓eval_int, ↓eval_func, ↓put_some, ↓bK_b, ↓binE_i, ↓bi_sub, ↓in_i64, ↓op_move, ↓op_bin, ↓op_not, ↓op_call, isD_d, ↓fnK_f, ↓call_H, ↓callK_H, ↓allT_nil, ↓allT_cons, ↓td_d, List.getD_cons_zero, List.getD_cons_succ, List.set_cons_zero, List.set_cons_succ, List.append_nil, List.all_cons, List.all_nil, Bool.true_and, Bool.and_self, Bool.true_or, Nat.reduceAdd, Nat.reduceSub, Nat.reduceMul, evK_go, reduceIte, Nat.reduceEqDiff, Nat.reduceLT, and_self, true_and]
  refine ⟨by omega, ?_⟩
  (repeat refine OrH.l ?_)
  refine cdK_split (fun hf => ?_) (fun hf => ?_)
  rotate_left
  · have e : domE n l f = 1 := by unfold domE; rw [if_pos hc, hf]; rfl
    have e2 : domLast n l f = [] := if_neg (by rw [e]; decide)
    simp (implicitDefEqProofs := false) (dsimp := false) only [e, e2, nc108, erD_1, ↓aw_seq, ↓aw_ret, ↓aw_reg, ↓Qseq_n, ↓Qseq_r, ↓Qret_r, ↓ops_nil, ↓ops_cons, ↓eval_tmp, ↓eval_int, ↓eval_nil, ↓put_some, ↓vK_c, ↓op_assign, ↓op_iface, ↓td_d, ↓td_nl, ↓ret_2, ↓nc108, List.getD_cons_zero, List.getD_cons_succ, List.set_cons_zero, List.set_cons_succ, List.map_nil, Bool.and_self, Nat.reduceAdd, Nat.reduceSub, Nat.reduceMul, evK_go, reduceIte, Nat.reduceEqDiff, Nat.reduceLT, and_self]
  have e : domE n l f = 0 := by unfold domE; rw [if_pos hc, hf]; rfl
  rw [show domLast n l f = lastL n.toNat (ovL n.toNat (natL l) f.toNat) from if_pos e, e, lnD_nat ok.rng]
  have hcr := ok.cr
  have hff : 0 ≤ f ∧ f ≤ n - 1 := by simpa [inB] using hf
  obtain ⟨x, rfl⟩ := Int.eq_ofNat_of_zero_le hff.1
  clear ok hc hf e
  generalize n.toNat = m at *
  subst e0
  generalize natL l = L at *
  have hov : m ≤ 8 ∧ x < m ∧ L.length < 2 ^ 62 ∧ Good m L := ⟨h8, by omega, hcr.2.1, hcr.2.2⟩
  rw [Int.toNat_natCast]
  have hwl := ovL_len m L x
  have hwt := ovL_lt (n := m) (by omega) L x
  have hwm : ∀ i j, j ∈ pts ((ovL m L x).getD i default) → j < m := fun i j hj => ((ovL_pts (by omega) hcr.2.2 hov.2.1 i j).1 hj).1
  simp (implicitDefEqProofs := false) (dsimp := false) only [over_callD, hov, ↓nthK_H, ↓nthH_zero, ↓aw_seq, ↓aw_block, ↓aw_skip, ↓aw_loop, ↓aw_reg, ↓Qseq_n, ↓ops_nil, ↓ops_cons, ↓eval_tmp, ↓eval_int, ↓eval_func, ↓put_some, ↓put_none, ↓iK_i, ↓dK_d, ↓lenK_l, ↓ldK_p, ↓op_move, ↓op_load, ↓op_len, ↓op_call, ↓op_alloc, ↓op_store, ↓op_make, isD_d, ↓fnK_f, ↓call_H, ↓callK_H, ↓allT_nil, ↓allT_cons, ↓td_d, ↓addBox_mk, ↓addRow_mk, ↓setBox_mk, ↓st_bx, ↓st_rw, ↓cells_c, ↓vcells_l, ↓vcells_nl, ↓vcells_o, ↓one_i, ↓one_l, ↓vone_d, ↓vone_o, constV_i, constV_n, ↓st_p, ↓mk_, ↓vsz_int, ↓ty3, ↓zb3, ↓ty24, ↓sl24, ↓zb24, ↓ty99, ↓sl99, ↓zb99, List.getD_cons_zero, List.getD_cons_succ, List.set_cons_zero, List.set_cons_succ, List.cons_append, List.nil_append, List.append_nil, List.length_cons, List.length_nil, List.length_map, List.all_cons, List.all_nil, Bool.and_true, Bool.true_and, Bool.and_self, Bool.true_or, Nat.reduceAdd, Nat.reduceSub, Nat.reduceMul, Nat.zero_add, Int.toNat_natCast, evK_go, reduceIte, Nat.reduceEqDiff, Nat.reduceLT, and_self, true_and, and_true, Int.zero_add, Int.natCast_nonneg]
  (repeat refine OrH.l ?_)
  generalize ovL m L x = W at hwl hwt hwm ⊢
  refine ⟨⟨by omega, by decide⟩, ?_⟩
  refine loopW (fun k : Nat => { tm := slots 74 [(9, .p 0 0), (10, .p 1 0), (32, .d (.l (W.map U))), (33, .d (I .i64 (m : Int))), (34, .d (I .i64 k))], bx := [.d (.l (W.map U)), .o 0 0 m], rw := [some ⟨1, (lastB m W k).map (I .i64)⟩] })
    (fun k => k ≤ m) (fun k => m - k) 0 (by simp) ?_ ?_
  · refine Wkn.of [0, 1] [some 0] ?_
    have e : (lastB m W 0).map (I .i64) = List.replicate m (I .i64 0) := by unfold lastB; rw [part_zero, List.map_replicate]
    simp (implicitDefEqProofs := false) (dsimp := false) only [hwl, e, ↓vcells_l, ↓vcells_o, List.getD_cons_zero, List.getD_cons_succ, List.set_cons_zero, List.set_cons_succ, List.length_cons, List.length_nil, Bool.and_self, Nat.reduceAdd, Nat.reduceSub, Nat.reduceMul, Nat.zero_add, List.replicate, evK_go, reduceIte, Nat.reduceEqDiff, Nat.reduceLT, and_self, Int.zero_add, List.foldl_cons, List.foldl_nil, Int.cast_ofNat_Int, slots, wkL_nil, wkL_cons, wkB_nil, wkB_cons, wkR_nil, wkR_some, wkV_j, wkV_d, wkV_o, wkV_p, frz_d, oK_zs, pK_z, pK_s, reduceCtorEq]
  · intro k hk
    simp (implicitDefEqProofs := false) (dsimp := false) only [slots, ↓aw_cond, ↓aw_seq, ↓aw_reg, ↓Qseq_n, ↓ops_nil, ↓ops_cons, ↓eval_tmp, ↓put_some, ↓bK_b, ↓binE_i, ↓bi_lss, ↓op_bin, List.getD_cons_zero, List.getD_cons_succ, List.set_cons_zero, List.set_cons_succ, Nat.reduceAdd, Nat.reduceSub, Nat.reduceMul, List.replicate, evK_go, reduceIte, Nat.reduceEqDiff, Nat.reduceLT, List.foldl_cons, List.foldl_nil, Int.ofNat_lt]
    refine cdK_dec (fun h => ?_) (fun h => ?_)
    · have hkW : k < W.length := by omega
      have hlt := hwt _ (getD_mem hkW)
      have hk64 : k < 64 := by omega
      have hlB : (lastB m W k).length = m := by simp [lastB]
      have hdif := dif_lt (n := 2 ^ k) hlt
      simp (implicitDefEqProofs := false) (dsimp := false) only [h, hkW, hlt, hk64, without_call, each_call, ↓optK_some, ↓rwK_mk_, ↓atK_H, ↓atH_map, ↓nthK_H, ↓nthH_zero, ↓aw_seq, ↓aw_block, ↓aw_skip, ↓aw_rng, ↓aw_reg, ↓Qseq_n, ↓ops_nil, ↓ops_cons, ↓eval_tmp, ↓eval_int, ↓eval_func, ↓put_some, ↓put_none, ↓iK_i, ↓dK_d, ↓ldK_q, ↓ldK_p, ↓iaK_l, ↓iaK_o, ↓op_move, ↓op_assign, ↓op_load, ↓op_ia, ↓op_call, ↓op_alloc, ↓op_store, isD_d, ↓fnK_f, ↓call_H, ↓callK_H, ↓allT_nil, ↓allT_cons, ↓td_d, ↓addBox_mk, ↓setBox_mk, ↓setRow_mk, ↓st_bx, ↓row_sz, ↓row_xs, ↓cells_c, ↓vcells_c, ↓vcells_o, ↓one_i, ↓vone_d, constV_i, ↓st_p, ↓st_e, ↓hd_cons, ↓ty3, ↓zb3, ↓ty24, ↓sl24, ↓sl99, ↓ty102, List.getD_cons_zero, List.getD_cons_succ, List.set_cons_zero, List.set_cons_succ, List.cons_append, List.nil_append, List.append_nil, List.length_cons, List.length_nil, List.all_cons, List.all_nil, Bool.true_and, Bool.and_self, Bool.true_or, Nat.reduceAdd, Nat.reduceSub, Nat.reduceMul, Nat.zero_add, Int.toNat_natCast, evK_go, reduceIte, decide_true, Nat.reduceEqDiff, Nat.reduceLT, and_self, true_and, Int.zero_add, Int.ofNat_lt, Int.natCast_nonneg]
      (repeat refine OrH.l ?_)
      refine rangeW (slots 74 [(9, .p 0 0), (10, .p 1 0), (11, .p 2 0), (32, .d (.l (W.map U))), (33, .d (I .i64 (m : Int))), (34, .d (I .i64 (k : Int))), (45, .d (.f (.func 111) [.q [U (dif (W.getD k default) (2 ^ k))]]))])
        (fun _ => [.d (.l (W.map U)), .o 0 0 m, .d (I .i64 (k : Int))]) (fun P : List Nat => [some ⟨1, ((lastB m W k).set k (P.foldl (bestK W) (-1))).map (I .i64)⟩]) (fun ys P => ys = P.map Int.ofNat) []
        (by simp [slots]) (each_iter _ hdif) ?_ rfl ?_ ?_ ?_
      · simp (implicitDefEqProofs := false) (dsimp := false) only [slots, ↓eval_tmp, List.getD_cons_zero, List.getD_cons_succ, List.set_cons_zero, List.set_cons_succ, Nat.reduceAdd, Nat.reduceSub, Nat.reduceMul, List.replicate, evK_go, reduceIte, Nat.reduceEqDiff, Nat.reduceLT, List.foldl_cons, List.foldl_nil]
      · refine Wkn.of [0, 1, 2] [some 0] ?_
        simp (implicitDefEqProofs := false) (dsimp := false) only [List.foldl_nil, List.map_set, ↓vcells_c, ↓vcells_l, ↓vcells_o, List.getD_cons_zero, List.getD_cons_succ, List.set_cons_zero, List.set_cons_succ, List.length_cons, List.length_nil, Bool.and_self, Nat.reduceAdd, Nat.reduceSub, Nat.reduceMul, Nat.zero_add, List.replicate, evK_go, reduceIte, Nat.reduceEqDiff, Nat.reduceLT, and_self, Int.zero_add, List.foldl_cons, List.foldl_nil, slots, wkL_nil, wkL_cons, wkB_nil, wkB_cons, wkR_nil, wkR_some, wkV_j, wkV_d, wkV_o, wkV_p, frz_d, oK_zs, pK_z, pK_s, reduceCtorEq]
      · rintro ys y P hpx rfl
        obtain ⟨P', c, hP, rfl, hcc⟩ := prefix_map hpx
        obtain rfl : P = P' := ofNat_inj hP
        have hall : ∀ j ∈ pts (dif (W.getD k default) (2 ^ k)), j < m := fun j hj => by
          have h1 := (pts_mem _ _).1 hj
          rw [dif_bit, Bool.and_eq_true] at h1
          exact hwm k j ((pts_mem _ _).2 ⟨h1.1, h1.2.1⟩)
        have hcm : c < m := hall c (hcc.subset (by simp : c ∈ P ++ [c]))
        have hcW : c < W.length := by omega
        have hltc := hwt _ (getD_mem hcW)
        have hsl : ∀ v, ((lastB m W k).set k v).length = m := fun v => by simp [lastB]
        have hsg : ∀ v, ((lastB m W k).set k v).getD k default = v := fun v => by rw [set_getD, if_pos ⟨rfl, by rw [hlB]; exact h⟩]
        have er : ∀ v w, (List.map (I .i64) ((lastB m W k).set k v)).set k (I .i64 w) = List.map (I .i64) ((lastB m W k).set k w) := fun v w => by rw [← List.map_set, List.set_set]
        have hfold : (P ++ [c]).foldl (bestK W) (-1) = bestK W (P.foldl (bestK W) (-1)) c := by rw [List.foldl_append]; rfl
        have hrg := best_range (all := W) (P := P) (m := m) fun j hj => hall j (hcc.subset (by simp [hj]))
        simp (implicitDefEqProofs := false) (dsimp := false) only [slots, h, hsl, hsg, ↓gdK_f, ↓gval_mk, ↓gvL_zero, ↓gvL_succ, ↓optK_some, ↓rwK_mk_, ↓atK_H, ↓atH_map, ↓nthK_H, ↓nthH_zero, ↓aw_seq, ↓aw_block, ↓aw_reg, ↓aw_draw, ↓ops_nil, ↓ops_cons, ↓eval_tmp, ↓eval_int, ↓put_some, ↓iK_i, ↓ev_move, ↓ev_load, ↓ev_bin, ↓ev_ia, ↓binE_i, ↓bi_lss, ↓ldK_p, ↓ldK_e, ↓iaK_o, ↓op_assign, ↓draw_H, ↓h_cons, ↓ldH_n, ↓ldH_g, ↓q_move, ↓q_load, ↓q_bin, ↓q_ia, ↓il_move, ↓il_load, ↓il_bin, ↓il_ia, ↓st_tm, ↓row_sz, ↓row_xs, ↓cells_c, ↓vcells_c, ↓vcells_o, ↓Qn_n, ↓ty3, ↓ty24, ↓sl24, List.getD_cons_zero, List.getD_cons_succ, List.set_cons_zero, List.set_cons_succ, Bool.true_and, Bool.and_self, Nat.reduceAdd, Nat.reduceSub, Nat.reduceMul, Nat.zero_add, Int.toNat_natCast, List.replicate, evK_go, reduceIte, Nat.reduceEqDiff, Nat.reduceLT, and_self, true_and, Int.zero_add, List.foldl_cons, List.foldl_nil, Int.ofNat_lt, Int.natCast_nonneg]
        refine OrH.l ⟨DrawH.of follows_mixed (by kernel_rfl), ?_⟩
        rcases hrg with e | ⟨z, e, hz⟩
        · have e2 : bestK W (-1) c = (c : Int) := if_pos (.inl (by decide))
          rw [e] at hfold ⊢
          rw [e2] at hfold
          have hd : decide ((-1 : Int) < 0) = true := rfl
          simp (implicitDefEqProofs := false) (dsimp := false) only [hd, h, er, ↓cdK_true, ↓gdK_f, ↓gval_mk, ↓gvL_zero, ↓gvL_succ, ↓optK_some, ↓rwK_mk_, ↓nthK_H, ↓nthH_zero, ↓aw_cond, ↓aw_reg, ↓Qseq_n, ↓Qblk_n, ↓ops_nil, ↓ops_cons, ↓eval_tmp, ↓eval_bool, ↓put_some, ↓put_none, ↓bK_b, ↓iK_i, ↓dK_d, ↓ev_pick, ↓ldK_p, ↓iaK_o, ↓op_move, ↓op_load, ↓op_ia, ↓op_store, ↓h_nil, ↓h_cons, ↓ldH_n, ↓ldH_g, ↓q_pick, ↓il_move, ↓il_pick, ↓il_load, ↓il_bin, ↓il_ia, ↓il_call, ↓setRow_mk, ↓st_tm, ↓row_sz, ↓row_xs, ↓cells_c, ↓vcells_c, ↓vcells_o, ↓one_i, ↓st_e, ↓Qrd_n, ↓back_mk, ↓ty3, ↓ty24, ↓sl24, List.getD_cons_zero, List.getD_cons_succ, List.set_cons_zero, List.set_cons_succ, List.length_cons, List.length_nil, List.all_cons, List.all_nil, Bool.true_and, Bool.and_self, Nat.reduceAdd, Nat.reduceSub, Nat.reduceMul, Nat.zero_add, Int.toNat_natCast, evK_go, reduceIte, Nat.reduceEqDiff, Nat.reduceLT, and_self, true_and, Int.zero_add, Int.ofNat_lt, Int.natCast_nonneg]
          refine ⟨P ++ [c], by simp, ?_⟩
          refine Wkn.of [0, 1, 2] [some 0] ?_
          simp (implicitDefEqProofs := false) (dsimp := false) only [hfold, ↓vcells_c, ↓vcells_l, ↓vcells_o, List.getD_cons_zero, List.getD_cons_succ, List.length_cons, List.length_nil, Bool.and_self, Nat.reduceAdd, Nat.reduceSub, Nat.reduceMul, Nat.zero_add, evK_go, reduceIte, Nat.reduceEqDiff, Nat.reduceLT, and_self, Int.zero_add, slots, wkL_nil, wkL_cons, wkB_nil, wkB_cons, wkR_nil, wkR_some, wkV_j, wkV_d, wkV_o, wkV_p, frz_d, oK_zs, pK_z, pK_s, reduceCtorEq]
        · have hzW : z < W.length := by omega
          have hltz := hwt _ (getD_mem hzW)
          rw [e] at hfold ⊢
          have hd : decide ((z : Int) < 0) = false := by rw [decide_eq_false_iff_not]; omega
          simp (implicitDefEqProofs := false) (dsimp := false) only [hd, h, hcW, hzW, hsl, hsg, hltc, hltz, len_callQ, ↓cdK_false, ↓gdK_f, ↓gval_mk, ↓gvL_zero, ↓gvL_succ, ↓optK_some, ↓rwK_mk_, ↓atK_H, ↓atH_map, ↓nthK_H, ↓nthH_zero, ↓aw_cond, ↓Qseq_n, ↓eval_tmp, ↓eval_func, ↓put_some, ↓bK_b, ↓iK_i, ↓ev_move, ↓ev_pick, ↓ev_load, ↓ev_bin, ↓ev_ia, ↓binE_i, ↓bi_gtr, ↓ldK_q, ↓ldK_p, ↓ldK_e, ↓iaK_l, ↓iaK_o, isD_d, ↓fnK_f, ↓callKQ_H, ↓allT_nil, ↓allT_cons, ↓td_d, ↓h_nil, ↓h_cons, ↓ldH_n, ↓ldH_g, ↓q_call, ↓q_move, ↓q_pick, ↓q_load, ↓q_bin, ↓q_ia, ↓il_move, ↓il_pick, ↓il_load, ↓il_bin, ↓il_ia, ↓il_call, ↓st_tm, ↓row_sz, ↓row_xs, ↓cells_c, ↓vcells_c, ↓vcells_l, ↓vcells_o, ↓hd_cons, ↓ty3, ↓ty24, ↓sl24, ↓ty99, ↓sl99, ↓ty102, List.getD_cons_zero, List.getD_cons_succ, List.set_cons_zero, List.set_cons_succ, List.append_nil, List.length_cons, List.length_nil, List.all_cons, List.all_nil, Bool.true_and, Bool.and_self, Bool.true_or, Nat.reduceAdd, Nat.reduceSub, Nat.reduceMul, Nat.zero_add, Int.toNat_natCast, evK_go, reduceIte, Nat.reduceEqDiff, Nat.reduceLT, and_self, true_and, Int.zero_add, Int.ofNat_lt, Int.natCast_nonneg]
          (repeat refine OrH.l ?_)
          refine cdK_dec (fun h1 => ?_) (fun h1 => ?_)
          · have e2 : bestK W (z : Int) c = (c : Int) := if_pos (.inr (by rw [Int.toNat_natCast]; omega))
            rw [e2] at hfold
            simp (implicitDefEqProofs := false) (dsimp := false) only [h1, h, er, ↓optK_some, ↓rwK_mk_, ↓nthK_H, ↓nthH_zero, ↓aw_reg, ↓Qblk_n, ↓ops_nil, ↓ops_cons, ↓eval_tmp, ↓put_some, ↓put_none, ↓iK_i, ↓dK_d, ↓ldK_p, ↓iaK_o, ↓op_move, ↓op_load, ↓op_ia, ↓op_store, ↓setRow_mk, ↓row_sz, ↓row_xs, ↓cells_c, ↓vcells_c, ↓vcells_o, ↓one_i, ↓st_e, ↓Qrd_n, ↓back_mk, ↓ty3, ↓ty24, ↓sl24, List.getD_cons_zero, List.getD_cons_succ, List.set_cons_zero, List.set_cons_succ, List.length_cons, List.length_nil, List.all_cons, List.all_nil, Bool.true_and, Bool.and_self, Nat.reduceAdd, Nat.reduceSub, Nat.reduceMul, Nat.zero_add, Int.toNat_natCast, evK_go, reduceIte, decide_true, Nat.reduceEqDiff, Nat.reduceLT, and_self, true_and, Int.zero_add, Int.ofNat_lt, Int.natCast_nonneg]
            refine ⟨P ++ [c], by simp, ?_⟩
            refine Wkn.of [0, 1, 2] [some 0] ?_
            simp (implicitDefEqProofs := false) (dsimp := false) only [hfold, ↓vcells_c, ↓vcells_l, ↓vcells_o, List.getD_cons_zero, List.getD_cons_succ, List.length_cons, List.length_nil, Bool.and_self, Nat.reduceAdd, Nat.reduceSub, Nat.reduceMul, Nat.zero_add, evK_go, reduceIte, Nat.reduceEqDiff, Nat.reduceLT, and_self, Int.zero_add, slots, wkL_nil, wkL_cons, wkB_nil, wkB_cons, wkR_nil, wkR_some, wkV_j, wkV_d, wkV_o, wkV_p, frz_d, oK_zs, pK_z, pK_s, reduceCtorEq]
          · have e2 : bestK W (z : Int) c = (z : Int) := if_neg (by rw [Int.toNat_natCast]; omega)
            rw [e2] at hfold
            simp (implicitDefEqProofs := false) (dsimp := false) only [↓aw_skip, ↓Qblk_n, ↓Qrd_n, ↓back_mk, Nat.reduceAdd, Nat.reduceSub, Nat.reduceMul, evK_go, reduceIte, Nat.reduceEqDiff, Nat.reduceLT]
            refine ⟨P ++ [c], by simp, ?_⟩
            refine Wkn.of [0, 1, 2] [some 0] ?_
            simp (implicitDefEqProofs := false) (dsimp := false) only [hfold, ↓vcells_c, ↓vcells_l, ↓vcells_o, List.getD_cons_zero, List.getD_cons_succ, List.length_cons, List.length_nil, Bool.and_self, Nat.reduceAdd, Nat.reduceSub, Nat.reduceMul, Nat.zero_add, evK_go, reduceIte, Nat.reduceEqDiff, Nat.reduceLT, and_self, Int.zero_add, slots, wkL_nil, wkL_cons, wkB_nil, wkB_cons, wkR_nil, wkR_some, wkV_j, wkV_d, wkV_o, wkV_p, frz_d, oK_zs, pK_z, pK_s, reduceCtorEq]
      · rintro P hP
        obtain rfl : pts (dif (W.getD k default) (2 ^ k)) = P := ofNat_inj hP
        simp (implicitDefEqProofs := false) (dsimp := false) only [slots, ↓aw_reg, ↓Qseq_n, ↓Qblk_n, ↓ops_nil, ↓ops_cons, ↓eval_tmp, ↓eval_int, ↓put_some, ↓binE_i, ↓bi_add, ↓in_i64, ↓op_move, ↓op_bin, List.getD_cons_zero, List.getD_cons_succ, List.set_cons_zero, List.set_cons_succ, Nat.reduceAdd, Nat.reduceSub, Nat.reduceMul, List.replicate, evK_go, reduceIte, Nat.reduceEqDiff, Nat.reduceLT, List.foldl_cons, List.foldl_nil]
        refine ⟨by omega, k + 1, by omega, by omega, ?_⟩
        refine Wkn.of [0, 1] [some 0] ?_
        have e : lastB m W (k + 1) = (lastB m W k).set k ((pts (dif (W.getD k default) (2 ^ k))).foldl (bestK W) (-1)) := part_set (lastI W) 0 h
        simp (implicitDefEqProofs := false) (dsimp := false) only [e, ↓vcells_l, ↓vcells_o, List.getD_cons_zero, List.getD_cons_succ, List.length_cons, List.length_nil, Bool.and_self, Nat.reduceAdd, Nat.reduceSub, Nat.reduceMul, Nat.zero_add, evK_go, reduceIte, Nat.reduceEqDiff, Nat.reduceLT, and_self, Int.zero_add, Int.cast_ofNat_Int, Int.natCast_add, slots, wkL_nil, wkL_cons, wkB_nil, wkB_cons, wkR_nil, wkR_some, wkV_j, wkV_d, wkV_o, wkV_p, frz_d, oK_zs, pK_z, pK_s, reduceCtorEq]
    · obtain rfl : k = m := by omega
      simp (implicitDefEqProofs := false) (dsimp := false) only [eval_nilI, ↓optK_some, ↓rwK_mk_, ↓nthK_H, ↓nthH_zero, ↓aw_seq, ↓aw_exit, ↓aw_ret, ↓aw_reg, ↓Qseq_n, ↓Qseq_x, ↓Qblk_x, ↓Qret_r, ↓ops_nil, ↓ops_cons, ↓eval_tmp, ↓put_some, ↓ldK_p, ↓op_assign, ↓op_load, ↓td_d, ↓td_o, ↓ret_2, ↓row_xs, ↓vcells_o, ↓ty24, List.getD_cons_zero, List.getD_cons_succ, List.set_cons_zero, List.set_cons_succ, Nat.reduceAdd, Nat.reduceSub, Nat.reduceMul, evK_go, reduceIte, decide_false, Nat.reduceEqDiff, Nat.reduceLT, Nat.lt_irrefl, List.drop_zero]
      have e1 : List.take k (List.map (I .i64) (lastB k W k)) = List.map (I .i64) (lastL k W) := by
        rw [List.take_of_length_le (by simp [lastB])]
        unfold lastB lastL
        rw [part_all]
      rw [e1, erD_0]
theorem dlast_call (n : Int) (l : List (Int × Int)) (f : Int) (pure : Bool) (σ : St) (dst : Option Tmp) (K : St → Prop) : CallH Tryd.prog 68 [I .i64 n, .l (l.map lnD), I .i64 f] pure σ dst (.mk : Hid K) = OrH ((l.length < 2 ^ 62) ∧ (pure || D.flat (.t [.l ((domLast n l f).map (I .i64)), erD (domE n l f)])) = true ∧ evK (σ.put dst (.d (.t [.l ((domLast n l f).map (I .i64)), erD (domE n l f)]))) (.mk : Hid K)) (.mk : Hid (CallH Tryd.prog 68 [I .i64 n, .l (l.map lnD), I .i64 f] pure σ dst (.mk : Hid K))) := CallH.eq (dlast_spec n l f) pure σ dst K
end Go.Proofs

namespace Go.Proofs
open Go.Aw
set_option linter.unusedSimpArgs false
set_option maxRecDepth 10000
end Go.Proofs

namespace Go.Proofs
open Go.Aw
set_option linter.unusedSimpArgs false
set_option maxRecDepth 10000
def rootR (n : Int) (l : List (Int × Int)) : List Nat := if chk n l = 0 then (List.range n.toNat).map (rootP n.toNat (natL l)) else []
def farR (n : Int) (l : List (Int × Int)) (f : Int) : List Int := if chk n l = 0 then (if inB f 0 (n - 1) = true then farL n.toNat (natL l) f.toNat else []) else []
def farE (n : Int) (l : List (Int × Int)) (f : Int) : Int := if chk n l = 0 then (if inB f 0 (n - 1) = true then 0 else 1) else chk n l
def negK (n k : Nat) : List Int := List.replicate k (-1) ++ List.replicate (n - k) 0
theorem inW_iff {x lo hi : Int} : inB x lo hi = true ↔ lo ≤ x ∧ x ≤ hi := by simp [inB]
structure FI where
  q : Nat
  pre : List Nat
  st : BS
end Go.Proofs

namespace Go.Proofs
open Go.Aw
set_option linter.unusedSimpArgs false
set_option maxRecDepth 10000
set_option maxHeartbeats 2000000
structure PI where
  m : Nat
  pre : List Nat
  g : GS
def outK (has : List Int) (n k : Nat) : List Nat := (List.range k).foldl (fun o j => o.set (has.getD j default).toNat j) (List.replicate n 0)
def pairsR (L R : List (List Int)) : List Nat := if stE L R = 0 then gale L.length (toN L) (toN R) else []
end Go.Proofs

namespace Go.Proofs
open Go.Aw Go.ChangeShapes Go.WideShapes Go.ChangeAt Go.RowKit Go.Deep
set_option linter.unusedVariables false
set_option maxRecDepth 100000
section
variable {H : Type} {enc : TypeId × Value → H} {W : World} {held : Bool}
end
end Go.Proofs

namespace Go.Proofs
open Go.Aw
set_option linter.unusedSimpArgs false
set_option maxRecDepth 10000
def sgL : List (List Int) := [[0, 1], [0, 1]]
def sgR : List (List Int) := [[1, 0], [0, 1]]
end Go.Proofs

namespace Go.Proofs
open Go.Aw
set_option linter.unusedSimpArgs false
set_option maxRecDepth 10000
end Go.Proofs

namespace Go.Proofs
open Go.Aw
set_option linter.unusedSimpArgs false
set_option maxRecDepth 10000
end Go.Proofs

namespace Go.Proofs
open Go.Aw
set_option linter.unusedSimpArgs false
set_option maxRecDepth 10000
set_option maxHeartbeats 1000000
end Go.Proofs

namespace Go.Proofs
open Go.Aw
set_option linter.unusedSimpArgs false
set_option maxRecDepth 10000
set_option maxHeartbeats 2000000
theorem goes_nat {n : Int} {l : List (Int × Int)} (ok : Ok n l) (i j : Nat) : (((i : Int), (j : Int)) ∈ l ↔ (i, j) ∈ natL l) := by
  unfold natL
  rw [List.mem_map]
  constructor
  · intro h; exact ⟨_, h, rfl⟩
  · rintro ⟨⟨a, b⟩, h1, h2⟩
    have := ok.rng _ h1
    simp (implicitDefEqProofs := false) (dsimp := false) only [natP, Prod.mk.injEq] at h2 this
    have e1 : a = (i : Int) := by omega
    have e2 : b = (j : Int) := by omega
    rw [← e1, ← e2]; exact h1
end Go.Proofs

namespace Go.Proofs
open Go.Aw
set_option linter.unusedSimpArgs false
set_option maxRecDepth 10000
set_option maxHeartbeats 2000000
end Go.Proofs

namespace Go.Proofs
open Go.Aw
set_option linter.unusedSimpArgs false
set_option maxRecDepth 10000
set_option maxHeartbeats 2000000
end Go.Proofs

namespace Go.Proofs
open Go.Aw
set_option linter.unusedSimpArgs false
set_option maxRecDepth 10000
set_option maxHeartbeats 2000000
theorem erows00_spec  : FnD Tryd.prog 53 [.l [], .l []] (Bo true) := by
  exact erows_spec [] [] ⟨by decide, fun x hx => by cases hx⟩
theorem erows00_call  (pure : Bool) (σ : St) (dst : Option Tmp) (K : St → Prop) : CallH Tryd.prog 53 [.l [], .l []] pure σ dst (.mk : Hid K) = OrH ((pure || D.flat (Bo true)) = true ∧ evK (σ.put dst (.d (Bo true))) (.mk : Hid K)) (.mk : Hid (CallH Tryd.prog 53 [.l [], .l []] pure σ dst (.mk : Hid K))) := CallH.eq0 (erows00_spec ) pure σ dst K
def rowC (C : Nat → Nat → Bool) (a b : Nat) : List Nat := (List.range b).filter (C a)
def allC (C : Nat → Nat → Bool) (n a : Nat) : List (List Int) := (List.range a).map fun x => (rowC C x n).map Int.ofNat
end Go.Proofs

namespace Go.Proofs
open Go.Aw
set_option linter.unusedSimpArgs false
set_option maxRecDepth 10000
set_option maxHeartbeats 2000000
def ovrP (n : Nat) (l : List (Int × Int)) (f i k : Nat) : List Nat := (List.range k).filter (ovrC n l f i)
theorem ovrP_succ (n : Nat) (l : List (Int × Int)) (f i k : Nat) : ovrP n l f i (k + 1) = ovrP n l f i k ++ (if ovrC n l f i k then [k] else []) := by
  unfold ovrP
  rw [List.range_succ, List.filter_append]
  congr 1
  rw [List.filter_cons, List.filter_nil]
theorem rover_spec (n : Nat) (l : List (Int × Int)) (f i : Nat) (hpre : (n ≤ 40 ∧ l.length < 2 ^ 62) ∧ f < n ∧ i < n) : FnD Tryd.prog 66 [I .i64 (n : Int), .l (l.map lnD), I .i64 (f : Int), I .i64 (i : Int)] (.l ((ovrR n l f i).map nD)) := by
  obtain ⟨hfp, hf, hi⟩ := hpre
  have hn := hfp.1
  have hlr : (List.range n).length = n := List.length_range
  have hrf := rng_getD hf
  have hri := rng_getD hi
  have hR : ovrR n l f i = if ffR n l false (-1) f i < 0 then [] else (List.range n).filter (ovrC n l f i) := rfl
  refine FnD.go Tryd.func66 rfl rfl Tryd.results66 Tryd.ntmps66 ?_
  simp (implicitDefEqProofs := false) (dsimp := false) only [↓aw_seq, ↓aw_reg, ↓Qseq_n, ↓ops_nil, ↓ops_cons, ↓eval_tmp, ↓eval_int, ↓eval_bool, ↓eval_nil, ↓eval_func, ↓put_some, ↓op_move, ↓op_assign, ↓op_call, isD_d, ↓fnK_f, ↓call_H, ↓callK_H, ↓allT_nil, ↓allT_cons, ↓td_d, List.getD_cons_zero, List.getD_cons_succ, List.set_cons_zero, List.set_cons_succ, List.cons_append, List.nil_append, List.append_nil, List.map_cons, List.map_nil, List.length_cons, List.length_nil, List.all_cons, List.all_nil, Bool.and_self, Nat.reduceAdd, Nat.reduceSub, Nat.reduceMul, Nat.zero_add, List.replicate, evK_go, reduceIte, Nat.reduceEqDiff, Nat.reduceLT, and_self, Int.zero_add]
  simp (implicitDefEqProofs := false) (dsimp := false) only [rfar_call, hfp, hf, hi, hlr, hrf, hri, ffRow, ↓atK_H, ↓atH_map, ↓aw_cond, ↓Qseq_n, ↓ops_nil, ↓ops_cons, ↓eval_tmp, ↓eval_int, ↓put_some, ↓bK_b, ↓iK_i, ↓binE_i, ↓bi_lss, ↓ldK_q, ↓iaK_l, ↓op_move, ↓op_load, ↓op_bin, ↓op_ia, ↓cells_c, ↓cells_l, ↓hd_cons, ↓ty3, ↓ty24, ↓sl24, ↓sl69, List.getD_cons_zero, List.getD_cons_succ, List.set_cons_zero, List.set_cons_succ, List.length_cons, List.length_nil, Bool.true_and, Bool.and_self, Bool.true_or, Nat.reduceAdd, Nat.reduceSub, Nat.reduceMul, Nat.zero_add, Int.toNat_natCast, evK_go, reduceIte, Nat.reduceEqDiff, Nat.reduceLT, and_self, true_and, Int.zero_add, Int.natCast_nonneg]
  (repeat refine OrH.l ?_)
  refine cdK_dec (fun h0 => ?_) (fun h0 => ?_)
  · rw [if_pos h0] at hR
    simp (implicitDefEqProofs := false) (dsimp := false) only [hR, ↓aw_seq, ↓aw_ret, ↓aw_reg, ↓Qseq_n, ↓Qseq_r, ↓Qret_r, ↓ops_nil, ↓ops_cons, ↓eval_tmp, ↓put_some, ↓op_move, ↓op_assign, ↓td_nl, ↓ret_1, List.getD_cons_zero, List.getD_cons_succ, List.set_cons_zero, List.set_cons_succ, List.map_nil, Nat.reduceAdd, Nat.reduceSub, Nat.reduceMul, evK_go, reduceIte, Nat.reduceEqDiff, Nat.reduceLT]
    skip
  rw [if_neg h0] at hR
  rw [hR]
  simp (implicitDefEqProofs := false) (dsimp := false) only [↓aw_seq, ↓aw_block, ↓aw_skip, ↓aw_loop, ↓aw_reg, ↓Qseq_n, ↓ops_nil, ↓ops_cons, ↓eval_int, ↓put_some, ↓op_assign, List.set_cons_zero, List.set_cons_succ, Nat.reduceAdd, Nat.reduceSub, Nat.reduceMul, evK_go, reduceIte, Nat.reduceEqDiff, Nat.reduceLT]
  refine loopW (fun k : Nat => { tm := slots 53 [(0, .d (I .i64 (n : Int))), (1, .d (.l (l.map lnD))), (2, .d (I .i64 (f : Int))), (3, .d (I .i64 (i : Int))), (9, .o 0 0 (ovrP n l f i k).length), (10, .d (I .i64 k))], bx := [], rw := [some ⟨1, (ovrP n l f i k).map nD⟩] })
    (fun k => k ≤ n) (fun k => n - k) 0 (by simp) ?_ ?_
  · refine Wkn.of [] [none] ?_
    simp (implicitDefEqProofs := false) (dsimp := false) only [ovrP, List.range_zero, List.filter_nil, List.map_nil, List.length_nil, ↓row_xs, List.set_cons_zero, List.set_cons_succ, List.map_nil, List.length_nil, Bool.and_self, Nat.reduceAdd, Nat.reduceSub, Nat.reduceMul, List.replicate, evK_go, reduceIte, Nat.reduceEqDiff, Nat.reduceLT, and_self, List.foldl_cons, List.foldl_nil, Int.cast_ofNat_Int, slots, wkL_nil, wkL_cons, wkB_nil, wkR_nil, wkR_new, wkV_j, wkV_d, nlK_nl, wkV_o, frz_d, oK_zn, reduceCtorEq]
  · intro k hk
    have hs := ovrP_succ n l f i k
    have hpl : (ovrP n l f i k).length ≤ n := by
      unfold ovrP
      have := List.length_filter_le (ovrC n l f i) (List.range k)
      rw [List.length_range] at this; omega
    have hC : ovrC n l f i k = (decide (k = f) || (decide (k = i) || decide (ffR n l false (k : Int) f i < 0))) := rfl
    have hend : k = n → ovrP n l f i k = (List.range n).filter (ovrC n l f i) := fun e => by rw [e]; rfl
    simp (implicitDefEqProofs := false) (dsimp := false) only [slots, ↓aw_cond, ↓aw_seq, ↓aw_reg, ↓Qseq_n, ↓ops_nil, ↓ops_cons, ↓eval_tmp, ↓put_some, ↓bK_b, ↓binE_i, ↓bi_lss, ↓op_move, ↓op_bin, List.getD_cons_zero, List.getD_cons_succ, List.set_cons_zero, List.set_cons_succ, Nat.reduceAdd, Nat.reduceSub, Nat.reduceMul, List.replicate, evK_go, reduceIte, Nat.reduceEqDiff, Nat.reduceLT, List.foldl_cons, List.foldl_nil, Int.ofNat_lt]
    refine cdK_dec (fun h => ?_) (fun h => ?_)
    rotate_left
    · obtain rfl : k = n := by omega
      simp (implicitDefEqProofs := false) (dsimp := false) only [hend rfl, ↓optK_some, ↓rwK_H, ↓aw_seq, ↓aw_exit, ↓aw_ret, ↓aw_reg, ↓Qseq_n, ↓Qseq_x, ↓Qblk_x, ↓Qret_r, ↓ops_nil, ↓ops_cons, ↓eval_tmp, ↓put_some, ↓op_move, ↓op_assign, ↓td_o, ↓ret_1, ↓row_xs, ↓take_map, List.getD_cons_zero, List.getD_cons_succ, List.set_cons_zero, List.set_cons_succ, Nat.reduceAdd, Nat.reduceSub, Nat.reduceMul, evK_go, reduceIte, decide_false, Nat.reduceEqDiff, Nat.reduceLT, Nat.lt_irrefl, List.drop_zero]
      skip
    have hkn : k < n := by omega
    have fin : ∀ b : Bool, ovrC n l f i k = b → b = true → ovrP n l f i (k + 1) = ovrP n l f i k ++ [k] := fun b e1 e2 => by rw [hs, e1, if_pos e2]
    by_cases h1 : k = f
    · have d1 := decide_eq_true h1
      have e := fin true (by rw [hC, d1]; rfl) rfl
      simp (implicitDefEqProofs := false) (dsimp := false) only [d1, ↓cdK_true, ↓gdK_f, ↓gval_mk, ↓gvL_zero, ↓gvL_succ, ↓optK_some, ↓rwK_H, ↓aw_cond, ↓aw_seq, ↓aw_block, ↓aw_skip, ↓aw_reg, ↓Qseq_n, ↓Qblk_n, ↓ops_nil, ↓ops_cons, ↓ops_guard, ↓eval_tmp, ↓eval_int, ↓eval_bool, ↓put_some, ↓bK_b, ↓dK_d, ↓binE_i, ↓bi_add, ↓bi_eql, ↓in_i64, ↓op_move, ↓op_assign, ↓op_pick, ↓op_bin, ↓op_append, ↓allD_nil, ↓allD_cons, ↓app_mk, ↓st_tm, ↓row_sz, ↓row_xs, kill_d, kill_j, kill_o, kill_junk, ↓cells_c, ↓one_i, ↓ap_, ↓ap_o, ↓src_l, ↓bs_, ↓op_bs, ↓bsL_f, ↓stored_mk, ↓sl_nil, ↓sl_cons, ↓sT_move, ↓sT_assign, ↓sT_bs, ↓sT_call, ↓vsz_int, ↓inO_1, ↓fm_nil, ↓fm_cons, ↓ty3, ↓zb3, ↓sl24, List.getD_cons_zero, List.getD_cons_succ, List.set_cons_zero, List.set_cons_succ, List.map_cons, List.map_nil, List.length_cons, List.length_nil, List.length_map, List.all_cons, List.all_nil, Bool.true_and, Bool.and_self, Bool.or_false, Nat.reduceAdd, Nat.reduceSub, Nat.reduceMul, Nat.zero_add, evK_go, reduceIte, Nat.reduceEqDiff, Nat.reduceLT, and_self, true_and, Int.zero_add, List.drop_zero, Int.natCast_inj]
      refine ⟨by decide, ⟨fun _ => trivial, by omega, by omega⟩, by omega, k + 1, by omega, by omega, ?_⟩
      refine Wkn.of [] [some 0] ?_
      simp (implicitDefEqProofs := false) (dsimp := false) only [e, List.map_append, List.length_append, List.length_cons, List.length_nil, nD, List.getD_cons_zero, List.set_cons_zero, List.set_cons_succ, List.map_cons, List.map_nil, List.length_cons, List.length_nil, Bool.and_self, Nat.reduceAdd, Nat.reduceSub, Nat.reduceMul, Nat.zero_add, List.replicate, evK_go, reduceIte, Nat.reduceEqDiff, Nat.reduceLT, and_self, Int.zero_add, List.foldl_cons, List.foldl_nil, Int.cast_ofNat_Int, Int.natCast_add, slots, wkL_nil, wkL_cons, wkB_nil, wkR_nil, wkR_some, wkV_j, wkV_d, wkV_o, frz_d, oK_zs, reduceCtorEq]
    have d1 := decide_eq_false h1
    by_cases h2 : k = i
    · have d2 := decide_eq_true h2
      have e := fin true (by rw [hC, d1, d2]; rfl) rfl
      simp (implicitDefEqProofs := false) (dsimp := false) only [d1, d2, ↓cdK_true, ↓cdK_false, ↓gdK_f, ↓gval_mk, ↓gvL_zero, ↓gvL_succ, ↓optK_some, ↓rwK_H, ↓aw_cond, ↓aw_seq, ↓aw_block, ↓aw_skip, ↓aw_reg, ↓Qseq_n, ↓Qblk_n, ↓ops_nil, ↓ops_cons, ↓ops_guard, ↓eval_tmp, ↓eval_int, ↓eval_bool, ↓put_some, ↓bK_b, ↓dK_d, ↓binE_i, ↓bi_add, ↓bi_eql, ↓in_i64, ↓op_move, ↓op_assign, ↓op_pick, ↓op_bin, ↓op_append, ↓allD_nil, ↓allD_cons, ↓app_mk, ↓st_tm, ↓row_sz, ↓row_xs, kill_d, kill_j, kill_o, kill_junk, ↓cells_c, ↓one_i, ↓ap_, ↓ap_o, ↓src_l, ↓bs_, ↓op_bs, ↓bsL_f, ↓stored_mk, ↓sl_nil, ↓sl_cons, ↓sT_move, ↓sT_assign, ↓sT_bs, ↓sT_call, ↓vsz_int, ↓inO_1, ↓fm_nil, ↓fm_cons, ↓ty3, ↓zb3, ↓sl24, List.getD_cons_zero, List.getD_cons_succ, List.set_cons_zero, List.set_cons_succ, List.map_cons, List.map_nil, List.length_cons, List.length_nil, List.length_map, List.all_cons, List.all_nil, Bool.true_and, Bool.and_self, Bool.or_false, Nat.reduceAdd, Nat.reduceSub, Nat.reduceMul, Nat.zero_add, evK_go, reduceIte, Nat.reduceEqDiff, Nat.reduceLT, and_self, true_and, Int.zero_add, List.drop_zero, Int.natCast_inj]
      refine ⟨by decide, ⟨fun _ => trivial, by omega, by omega⟩, by omega, k + 1, by omega, by omega, ?_⟩
      refine Wkn.of [] [some 0] ?_
      simp (implicitDefEqProofs := false) (dsimp := false) only [e, List.map_append, List.length_append, List.length_cons, List.length_nil, nD, List.getD_cons_zero, List.set_cons_zero, List.set_cons_succ, List.map_cons, List.map_nil, List.length_cons, List.length_nil, Bool.and_self, Nat.reduceAdd, Nat.reduceSub, Nat.reduceMul, Nat.zero_add, List.replicate, evK_go, reduceIte, Nat.reduceEqDiff, Nat.reduceLT, and_self, Int.zero_add, List.foldl_cons, List.foldl_nil, Int.cast_ofNat_Int, Int.natCast_add, slots, wkL_nil, wkL_cons, wkB_nil, wkR_nil, wkR_some, wkV_j, wkV_d, wkV_o, frz_d, oK_zs, reduceCtorEq]
    have d2 := decide_eq_false h2
    simp (implicitDefEqProofs := false) (dsimp := false) only [d1, d2, rfar_call, hfp, hf, hi, hlr, hrf, hri, ffRow, ↓cdK_false, ↓gdK_f, ↓gval_mk, ↓gvL_zero, ↓gvL_succ, ↓atK_H, ↓atH_map, ↓aw_cond, ↓aw_seq, ↓aw_block, ↓aw_skip, ↓aw_reg, ↓Qseq_n, ↓ops_nil, ↓ops_cons, ↓ops_guard, ↓eval_tmp, ↓eval_int, ↓eval_bool, ↓eval_func, ↓put_some, ↓bK_b, ↓iK_i, ↓binE_i, ↓bi_eql, ↓bi_lss, ↓ldK_q, ↓iaK_l, ↓op_move, ↓op_pick, ↓op_load, ↓op_bin, ↓op_ia, ↓op_call, isD_d, ↓fnK_f, ↓call_H, ↓callK_H, ↓allT_nil, ↓allT_cons, ↓td_d, ↓st_tm, ↓cells_c, ↓cells_l, ↓hd_cons, ↓ty3, ↓ty24, ↓sl24, ↓sl69, List.getD_cons_zero, List.getD_cons_succ, List.set_cons_zero, List.set_cons_succ, List.append_nil, List.length_cons, List.length_nil, List.all_cons, List.all_nil, Bool.true_and, Bool.and_self, Bool.true_or, Nat.reduceAdd, Nat.reduceSub, Nat.reduceMul, Nat.zero_add, Int.toNat_natCast, evK_go, reduceIte, Nat.reduceEqDiff, Nat.reduceLT, and_self, true_and, Int.zero_add, Int.natCast_nonneg, Int.natCast_inj]
    (repeat refine OrH.l ?_)
    refine cdK_dec (fun h3 => ?_) (fun h3 => ?_)
    · have e := fin true (by rw [hC, decide_eq_true h3, Bool.or_true, Bool.or_true]) rfl
      simp (implicitDefEqProofs := false) (dsimp := false) only [↓optK_some, ↓rwK_H, ↓aw_reg, ↓Qseq_n, ↓Qblk_n, ↓ops_nil, ↓ops_cons, ↓eval_tmp, ↓eval_int, ↓put_some, ↓dK_d, ↓binE_i, ↓bi_add, ↓in_i64, ↓op_move, ↓op_assign, ↓op_bin, ↓op_append, ↓allD_nil, ↓allD_cons, ↓app_mk, ↓row_sz, ↓row_xs, kill_d, kill_j, kill_o, ↓cells_c, ↓one_i, ↓ap_, ↓ap_o, ↓src_l, ↓bs_, ↓op_bs, ↓bsL_f, ↓stored_mk, ↓sl_nil, ↓sl_cons, ↓sT_move, ↓sT_assign, ↓sT_bs, ↓sT_call, ↓vsz_int, ↓inO_1, ↓fm_nil, ↓fm_cons, ↓ty3, ↓zb3, ↓sl24, List.getD_cons_zero, List.getD_cons_succ, List.set_cons_zero, List.set_cons_succ, List.map_cons, List.map_nil, List.length_cons, List.length_nil, List.length_map, List.all_cons, List.all_nil, Bool.true_and, Bool.and_self, Bool.or_false, Nat.reduceAdd, Nat.reduceSub, Nat.reduceMul, Nat.zero_add, evK_go, reduceIte, Nat.reduceEqDiff, Nat.reduceLT, and_self, true_and, Int.zero_add, List.drop_zero]
      refine ⟨by decide, ⟨fun _ => trivial, by omega, by omega⟩, by omega, k + 1, by omega, by omega, ?_⟩
      refine Wkn.of [] [some 0] ?_
      simp (implicitDefEqProofs := false) (dsimp := false) only [e, List.map_append, List.length_append, List.length_cons, List.length_nil, nD, List.getD_cons_zero, List.set_cons_zero, List.set_cons_succ, List.map_cons, List.map_nil, List.length_cons, List.length_nil, Bool.and_self, Nat.reduceAdd, Nat.reduceSub, Nat.reduceMul, Nat.zero_add, List.replicate, evK_go, reduceIte, Nat.reduceEqDiff, Nat.reduceLT, and_self, Int.zero_add, List.foldl_cons, List.foldl_nil, Int.cast_ofNat_Int, Int.natCast_add, slots, wkL_nil, wkL_cons, wkB_nil, wkR_nil, wkR_some, wkV_j, wkV_d, wkV_o, frz_d, oK_zs, reduceCtorEq]
    · have e : ovrP n l f i (k + 1) = ovrP n l f i k := by rw [hs, hC, d1, d2, decide_eq_false h3]; simp
      simp (implicitDefEqProofs := false) (dsimp := false) only [↓aw_skip, ↓aw_reg, ↓Qseq_n, ↓Qblk_n, ↓ops_nil, ↓ops_cons, ↓eval_tmp, ↓eval_int, ↓put_some, ↓binE_i, ↓bi_add, ↓in_i64, ↓op_move, ↓op_assign, ↓op_bin, List.getD_cons_zero, List.getD_cons_succ, List.set_cons_zero, List.set_cons_succ, Nat.reduceAdd, Nat.reduceSub, Nat.reduceMul, evK_go, reduceIte, Nat.reduceEqDiff, Nat.reduceLT]
      refine ⟨by omega, k + 1, by omega, by omega, ?_⟩
      refine Wkn.of [] [some 0] ?_
      simp (implicitDefEqProofs := false) (dsimp := false) only [e, List.getD_cons_zero, List.set_cons_zero, List.set_cons_succ, Bool.and_self, Nat.reduceAdd, Nat.reduceSub, Nat.reduceMul, List.replicate, evK_go, reduceIte, Nat.reduceEqDiff, Nat.reduceLT, and_self, List.foldl_cons, List.foldl_nil, Int.cast_ofNat_Int, Int.natCast_add, slots, wkL_nil, wkL_cons, wkB_nil, wkR_nil, wkR_some, wkV_j, wkV_d, wkV_o, frz_d, oK_zs, reduceCtorEq]
theorem rover_call (n : Nat) (l : List (Int × Int)) (f i : Nat) (pure : Bool) (σ : St) (dst : Option Tmp) (K : St → Prop) : CallH Tryd.prog 66 [I .i64 (n : Int), .l (l.map lnD), I .i64 (f : Int), I .i64 (i : Int)] pure σ dst (.mk : Hid K) = OrH (((n ≤ 40 ∧ l.length < 2 ^ 62) ∧ f < n ∧ i < n) ∧ (pure || D.flat (.l ((ovrR n l f i).map nD))) = true ∧ evK (σ.put dst (.d (.l ((ovrR n l f i).map nD)))) (.mk : Hid K)) (.mk : Hid (CallH Tryd.prog 66 [I .i64 (n : Int), .l (l.map lnD), I .i64 (f : Int), I .i64 (i : Int)] pure σ dst (.mk : Hid K))) := CallH.eq (rover_spec n l f i) pure σ dst K
end Go.Proofs

namespace Go.Proofs
open Go.Aw
set_option linter.unusedSimpArgs false
set_option maxRecDepth 10000
set_option maxHeartbeats 4000000
theorem lDomSays_spec (n : Int) (l : List (Int × Int)) (f : Int) (hn : -9223372036854775808 ≤ n ∧ n ≤ 9223372036854775807) (hl : l.length < 2 ^ 43) (hf : -9223372036854775808 ≤ f ∧ f ≤ 9223372036854775807) : FnD Tryd.prog 15 [I .i64 n, .l (l.map lnD), I .i64 f] (Bo true) := by
  have hl62 : l.length < 2 ^ 62 := by omega
  have bad : ∀ e : Int, domE n l f = e → e ≠ 0 → domOf n l f = [] ∧ domLast n l f = [] ∧ decide (e = 0) = false := fun e h1 h2 => ⟨if_neg (by rw [h1]; exact h2), if_neg (by rw [h1]; exact h2), decide_eq_false h2⟩
  refine FnD.go Tryd.func15 rfl rfl Tryd.results15 Tryd.ntmps15 ?_
  simp (implicitDefEqProofs := false) (dsimp := false) only [↓aw_seq, ↓aw_reg, ↓Qseq_n, ↓ops_nil, ↓ops_cons, ↓eval_tmp, ↓eval_bool, ↓eval_func, ↓put_some, ↓op_move, ↓op_assign, ↓op_call, isD_d, ↓fnK_f, ↓call_H, ↓callK_H, ↓allT_nil, ↓allT_cons, ↓td_d, List.getD_cons_zero, List.getD_cons_succ, List.set_cons_zero, List.set_cons_succ, List.cons_append, List.nil_append, List.append_nil, List.map_cons, List.map_nil, List.length_cons, List.length_nil, List.all_cons, List.all_nil, Bool.and_self, Nat.reduceAdd, Nat.reduceSub, Nat.reduceMul, Nat.zero_add, List.replicate, evK_go, reduceIte, Nat.reduceEqDiff, Nat.reduceLT, and_self, Int.zero_add]
  simp (implicitDefEqProofs := false) (dsimp := false) only [lines_call, hl62, ↓gdK_t, ↓gval_mk, ↓gvL_zero, ↓gvL_succ, ↓aw_seq, ↓aw_reg, ↓Qseq_n, ↓ops_nil, ↓ops_cons, ↓ops_guard, ↓eval_tmp, ↓eval_int, ↓put_some, ↓binE_i, ↓bi_eql, ↓op_move, ↓op_assign, ↓op_bin, ↓st_tm, List.getD_cons_zero, List.getD_cons_succ, List.set_cons_zero, List.set_cons_succ, Bool.true_and, Bool.true_or, Nat.reduceAdd, Nat.reduceSub, Nat.reduceMul, evK_go, reduceIte, Nat.reduceEqDiff, Nat.reduceLT, true_and]
  (repeat refine OrH.l ?_)
  by_cases hc : chk n l = 0
  rotate_left
  · have e1 : domE n l f = chk n l := if_neg hc
    obtain ⟨b1, b2, b3⟩ := bad _ e1 hc
    have hd := decide_eq_false hc
    generalize chk n l = e at *
    simp (implicitDefEqProofs := false) (dsimp := false) only [hd, ↓cdK_false, ↓gdK_t, ↓gval_mk, ↓gvL_zero, ↓gvL_succ, ↓aw_cond, ↓aw_seq, ↓aw_block, ↓aw_skip, ↓aw_loop, ↓aw_reg, ↓Qseq_n, ↓ops_nil, ↓ops_cons, ↓ops_guard, ↓eval_tmp, ↓eval_int, ↓eval_bool, ↓eval_nil, ↓put_some, ↓bK_b, ↓op_assign, ↓op_pick, ↓st_tm, List.getD_cons_zero, List.getD_cons_succ, List.set_cons_zero, List.set_cons_succ, Nat.reduceAdd, Nat.reduceSub, Nat.reduceMul, evK_go, reduceIte, Nat.reduceEqDiff, Nat.reduceLT]
    refine loopW (fun _ : Unit => { tm := slots 131 [(0, .d (I .i64 n)), (1, .d (.l (l.map lnD))), (2, .d (I .i64 f)), (7, .d (I .i64 e)), (8, .nl), (9, .nl), (10, .d (I .i64 0))], bx := [], rw := [] })
      (fun _ => True) (fun _ => 0) () trivial ?_ ?_
    · refine Wkn.of [] [] ?_; simp (implicitDefEqProofs := false) (dsimp := false) only [List.set_cons_zero, List.set_cons_succ, Bool.and_self, Nat.reduceAdd, Nat.reduceSub, Nat.reduceMul, List.replicate, evK_go, reduceIte, Nat.reduceEqDiff, Nat.reduceLT, and_self, List.foldl_cons, List.foldl_nil, slots, wkL_nil, wkL_cons, wkB_nil, wkR_nil, wkV_j, wkV_d, wkV_nl, nlK_nl, frz_d, reduceCtorEq]
    · rintro ⟨⟩ _
      simp (implicitDefEqProofs := false) (dsimp := false) only [slots, ↓gdK_t, ↓gval_mk, ↓gvL_zero, ↓gvL_succ, ↓aw_seq, ↓aw_reg, ↓ops_cons, ↓ops_guard, ↓eval_tmp, ↓put_some, ↓binE_i, ↓bi_lss, ↓op_move, ↓op_bin, ↓st_tm, List.getD_cons_zero, List.getD_cons_succ, List.set_cons_zero, List.set_cons_succ, Nat.reduceAdd, Nat.reduceSub, Nat.reduceMul, List.replicate, evK_go, reduceIte, Nat.reduceEqDiff, Nat.reduceLT, List.foldl_cons, List.foldl_nil]
      by_cases h : (0 : Int) < n
      · simp (implicitDefEqProofs := false) (dsimp := false) only [decide_eq_true h, hd, ↓cdK_true, ↓cdK_false, ↓gdK_t, ↓gval_mk, ↓gvL_zero, ↓gvL_succ, ↓aw_cond, ↓aw_seq, ↓aw_block, ↓aw_exit, ↓aw_loop, ↓aw_reg, ↓Qseq_n, ↓Qseq_x, ↓Qblk_x, ↓ops_nil, ↓ops_cons, ↓ops_guard, ↓eval_tmp, ↓eval_int, ↓put_some, ↓bK_b, ↓binE_i, ↓bi_eql, ↓op_move, ↓op_assign, ↓op_pick, ↓op_bin, ↓st_tm, List.getD_cons_zero, List.getD_cons_succ, List.set_cons_zero, List.set_cons_succ, Nat.reduceAdd, Nat.reduceSub, Nat.reduceMul, evK_go, reduceIte, Nat.reduceEqDiff, Nat.reduceLT]
        refine loopW (fun _ : Unit => { tm := slots 131 [(0, .d (I .i64 n)), (1, .d (.l (l.map lnD))), (2, .d (I .i64 f)), (7, .d (I .i64 e)), (8, .nl), (9, .nl), (11, .d (I .i64 0))], bx := [], rw := [] })
          (fun _ => True) (fun _ => 0) () trivial ?_ ?_
        · refine Wkn.of [] [] ?_; simp (implicitDefEqProofs := false) (dsimp := false) only [List.set_cons_zero, List.set_cons_succ, Bool.and_self, Nat.reduceAdd, Nat.reduceSub, Nat.reduceMul, List.replicate, evK_go, reduceIte, Nat.reduceEqDiff, Nat.reduceLT, and_self, List.foldl_cons, List.foldl_nil, slots, wkL_nil, wkL_cons, wkB_nil, wkR_nil, wkV_j, wkV_d, wkV_nl, nlK_nl, frz_d, reduceCtorEq]
        · rintro ⟨⟩ _
          simp (implicitDefEqProofs := false) (dsimp := false) only [slots, decide_eq_true h, hd, dof_call, dlast_call, hl62, e1, b1, b2, eerr_call, erows00_call, ints00_call, ↓cdK_true, ↓cdK_false, ↓gdK_t, ↓gval_mk, ↓gvL_zero, ↓gvL_succ, ↓nthK_H, ↓nthH_zero, ↓nthH_succ, ↓aw_cond, ↓aw_seq, ↓aw_exit, ↓aw_ret, ↓aw_reg, ↓Qseq_n, ↓Qseq_x, ↓Qblk_x, ↓Qret_r, ↓ops_nil, ↓ops_cons, ↓ops_guard, ↓eval_tmp, ↓eval_int, ↓eval_func, ↓put_some, ↓bK_b, ↓tK_t, ↓binE_i, ↓bi_eql, ↓bi_lss, ↓op_move, ↓op_assign, ↓op_pick, ↓op_bin, ↓op_extract, ↓op_call, ↓orH_T, isD_d, isD_nl, ↓fnK_f, ↓call_H, ↓callK_H, ↓allT_nil, ↓allT_cons, ↓td_d, ↓td_nl, ↓ret_1, ↓st_tm, List.getD_cons_zero, List.getD_cons_succ, List.set_cons_zero, List.set_cons_succ, List.append_nil, List.map_nil, List.all_cons, List.all_nil, Bool.and_self, Bool.true_or, Nat.reduceAdd, Nat.reduceSub, Nat.reduceMul, List.replicate, evK_go, reduceIte, decide_true, Nat.reduceEqDiff, Nat.reduceLT, and_self, List.foldl_cons, List.foldl_nil]
          (repeat (first | refine OrH.l ?_ | refine ⟨⟨rfl, by decide⟩, ?_⟩ | refine ⟨by decide, ?_⟩ | refine ⟨by omega, ?_⟩ | exact ⟨rfl, by decide⟩ | decide))
      · simp (implicitDefEqProofs := false) (dsimp := false) only [decide_eq_false h, ↓cdK_false, ↓gdK_t, ↓gval_mk, ↓gvL_zero, ↓gvL_succ, ↓aw_cond, ↓aw_seq, ↓aw_block, ↓aw_exit, ↓aw_loop, ↓aw_reg, ↓Qseq_n, ↓Qseq_x, ↓Qblk_x, ↓ops_nil, ↓ops_cons, ↓ops_guard, ↓eval_tmp, ↓eval_int, ↓eval_bool, ↓put_some, ↓bK_b, ↓op_assign, ↓op_pick, ↓st_tm, List.getD_cons_zero, List.getD_cons_succ, List.set_cons_zero, List.set_cons_succ, Nat.reduceAdd, Nat.reduceSub, Nat.reduceMul, evK_go, reduceIte, Nat.reduceEqDiff, Nat.reduceLT]
        refine loopW (fun _ : Unit => { tm := slots 131 [(0, .d (I .i64 n)), (1, .d (.l (l.map lnD))), (2, .d (I .i64 f)), (7, .d (I .i64 e)), (8, .nl), (9, .nl), (11, .d (I .i64 0))], bx := [], rw := [] })
          (fun _ => True) (fun _ => 0) () trivial ?_ ?_
        · refine Wkn.of [] [] ?_; simp (implicitDefEqProofs := false) (dsimp := false) only [List.set_cons_zero, List.set_cons_succ, Bool.and_self, Nat.reduceAdd, Nat.reduceSub, Nat.reduceMul, List.replicate, evK_go, reduceIte, Nat.reduceEqDiff, Nat.reduceLT, and_self, List.foldl_cons, List.foldl_nil, slots, wkL_nil, wkL_cons, wkB_nil, wkR_nil, wkV_j, wkV_d, wkV_nl, nlK_nl, frz_d, reduceCtorEq]
        · rintro ⟨⟩ _
          simp (implicitDefEqProofs := false) (dsimp := false) only [slots, decide_eq_false h, dof_call, dlast_call, hl62, e1, b1, b2, eerr_call, erows00_call, ints00_call, ↓cdK_true, ↓cdK_false, ↓gdK_t, ↓gval_mk, ↓gvL_zero, ↓gvL_succ, ↓nthK_H, ↓nthH_zero, ↓nthH_succ, ↓aw_cond, ↓aw_seq, ↓aw_exit, ↓aw_ret, ↓aw_reg, ↓Qseq_n, ↓Qseq_x, ↓Qblk_x, ↓Qret_r, ↓ops_nil, ↓ops_cons, ↓ops_guard, ↓eval_tmp, ↓eval_bool, ↓eval_func, ↓put_some, ↓bK_b, ↓tK_t, ↓binE_i, ↓bi_lss, ↓op_move, ↓op_assign, ↓op_pick, ↓op_bin, ↓op_extract, ↓op_call, ↓orH_T, isD_d, isD_nl, ↓fnK_f, ↓call_H, ↓callK_H, ↓allT_nil, ↓allT_cons, ↓td_d, ↓td_nl, ↓ret_1, ↓st_tm, List.getD_cons_zero, List.getD_cons_succ, List.set_cons_zero, List.set_cons_succ, List.append_nil, List.map_nil, List.all_cons, List.all_nil, Bool.and_self, Bool.true_or, Nat.reduceAdd, Nat.reduceSub, Nat.reduceMul, List.replicate, evK_go, reduceIte, decide_true, Nat.reduceEqDiff, Nat.reduceLT, and_self, List.foldl_cons, List.foldl_nil]
          (repeat (first | refine OrH.l ?_ | refine ⟨⟨rfl, by decide⟩, ?_⟩ | refine ⟨by decide, ?_⟩ | refine ⟨by omega, ?_⟩ | exact ⟨rfl, by decide⟩ | decide))
  have ok := chk_ok hc
  have hgo := goes_nat ok
  obtain ⟨m, rfl⟩ : ∃ m : Nat, n = (m : Int) := ⟨n.toNat, ok.n0⟩
  have hg : Good m (natL l) := by simpa using ok.good
  have hi8 : m ≤ 8 := by simpa using ok.hi
  have hlo : 1 ≤ m := by simpa using ok.lo
  have hd := decide_eq_true hc
  have hm0 : decide ((0 : Int) < (m : Int)) = true := decide_eq_true (by omega)
  rw [hc]
  have h00 : decide ((0 : Int) = 0) = true := by decide
  simp (implicitDefEqProofs := false) (dsimp := false) only [in2_call, ↓cdK_true, ↓cdK_not, ↓gdK_t, ↓gval_mk, ↓gvL_zero, ↓gvL_succ, ↓aw_cond, ↓Qseq_n, ↓ops_nil, ↓ops_cons, ↓ops_guard, ↓eval_tmp, ↓eval_int, ↓eval_func, ↓put_some, ↓bK_b, ↓binE_i, ↓bi_sub, ↓in_i64, ↓op_move, ↓op_pick, ↓op_bin, ↓op_not, ↓op_call, isD_d, ↓fnK_f, ↓call_H, ↓callK_H, ↓allT_nil, ↓allT_cons, ↓td_d, ↓st_tm, List.getD_cons_zero, List.getD_cons_succ, List.set_cons_zero, List.set_cons_succ, List.append_nil, List.all_cons, List.all_nil, Bool.true_and, Bool.and_self, Bool.true_or, Nat.reduceAdd, Nat.reduceSub, Nat.reduceMul, evK_go, reduceIte, decide_true, Nat.reduceEqDiff, Nat.reduceLT, and_self, true_and]
  refine ⟨by omega, ?_⟩
  (repeat refine OrH.l ?_)
  refine cdK_split (fun hin => ?_) (fun hin => ?_)
  rotate_left
  · have hin : inB f 0 ((m : Int) - 1) = false := hin
    have e1 : domE (m : Int) l f = 1 := by unfold domE; rw [if_pos hc, hin]; rfl
    obtain ⟨b1, b2, b3⟩ := bad _ e1 (by decide)
    have h10 : decide ((1 : Int) = 0) = false := by decide
    simp (implicitDefEqProofs := false) (dsimp := false) only [↓aw_seq, ↓aw_block, ↓aw_loop, ↓aw_reg, ↓Qseq_n, ↓ops_nil, ↓ops_cons, ↓eval_int, ↓eval_nil, ↓put_some, ↓op_assign, List.set_cons_zero, List.set_cons_succ, Nat.reduceAdd, Nat.reduceSub, Nat.reduceMul, evK_go, reduceIte, Nat.reduceEqDiff, Nat.reduceLT]
    refine loopW (fun _ : Unit => { tm := slots 131 [(0, .d (I .i64 (m : Int))), (1, .d (.l (l.map lnD))), (2, .d (I .i64 f)), (7, .d (I .i64 1)), (8, .nl), (9, .nl), (10, .d (I .i64 0))], bx := [], rw := [] })
      (fun _ => True) (fun _ => 0) () trivial ?_ ?_
    · refine Wkn.of [] [] ?_; simp (implicitDefEqProofs := false) (dsimp := false) only [List.set_cons_zero, List.set_cons_succ, Bool.and_self, Nat.reduceAdd, Nat.reduceSub, Nat.reduceMul, List.replicate, evK_go, reduceIte, Nat.reduceEqDiff, Nat.reduceLT, and_self, List.foldl_cons, List.foldl_nil, slots, wkL_nil, wkL_cons, wkB_nil, wkR_nil, wkV_j, wkV_d, wkV_nl, nlK_nl, frz_d, reduceCtorEq]
    · rintro ⟨⟩ _
      simp (implicitDefEqProofs := false) (dsimp := false) only [slots, hm0, h10, ↓cdK_true, ↓cdK_false, ↓gdK_t, ↓gval_mk, ↓gvL_zero, ↓gvL_succ, ↓aw_cond, ↓aw_seq, ↓aw_block, ↓aw_exit, ↓aw_loop, ↓aw_reg, ↓Qseq_n, ↓Qseq_x, ↓Qblk_x, ↓ops_nil, ↓ops_cons, ↓ops_guard, ↓eval_tmp, ↓eval_int, ↓put_some, ↓bK_b, ↓binE_i, ↓bi_eql, ↓bi_lss, ↓op_move, ↓op_assign, ↓op_pick, ↓op_bin, ↓st_tm, List.getD_cons_zero, List.getD_cons_succ, List.set_cons_zero, List.set_cons_succ, Nat.reduceAdd, Nat.reduceSub, Nat.reduceMul, List.replicate, evK_go, reduceIte, Nat.reduceEqDiff, Nat.reduceLT, List.foldl_cons, List.foldl_nil]
      refine loopW (fun _ : Unit => { tm := slots 131 [(0, .d (I .i64 (m : Int))), (1, .d (.l (l.map lnD))), (2, .d (I .i64 f)), (7, .d (I .i64 1)), (8, .nl), (9, .nl), (11, .d (I .i64 0))], bx := [], rw := [] })
        (fun _ => True) (fun _ => 0) () trivial ?_ ?_
      · refine Wkn.of [] [] ?_; simp (implicitDefEqProofs := false) (dsimp := false) only [List.set_cons_zero, List.set_cons_succ, Bool.and_self, Nat.reduceAdd, Nat.reduceSub, Nat.reduceMul, List.replicate, evK_go, reduceIte, Nat.reduceEqDiff, Nat.reduceLT, and_self, List.foldl_cons, List.foldl_nil, slots, wkL_nil, wkL_cons, wkB_nil, wkR_nil, wkV_j, wkV_d, wkV_nl, nlK_nl, frz_d, reduceCtorEq]
      · rintro ⟨⟩ _
        simp (implicitDefEqProofs := false) (dsimp := false) only [slots, hm0, h10, dof_call, dlast_call, hl62, e1, b1, b2, eerr_call, erows00_call, ints00_call, ↓cdK_true, ↓cdK_false, ↓gdK_t, ↓gval_mk, ↓gvL_zero, ↓gvL_succ, ↓nthK_H, ↓nthH_zero, ↓nthH_succ, ↓aw_cond, ↓aw_seq, ↓aw_exit, ↓aw_ret, ↓aw_reg, ↓Qseq_n, ↓Qseq_x, ↓Qblk_x, ↓Qret_r, ↓ops_nil, ↓ops_cons, ↓ops_guard, ↓eval_tmp, ↓eval_int, ↓eval_func, ↓put_some, ↓bK_b, ↓tK_t, ↓binE_i, ↓bi_eql, ↓bi_lss, ↓op_move, ↓op_assign, ↓op_pick, ↓op_bin, ↓op_extract, ↓op_call, ↓orH_T, isD_d, isD_nl, ↓fnK_f, ↓call_H, ↓callK_H, ↓allT_nil, ↓allT_cons, ↓td_d, ↓td_nl, ↓ret_1, ↓st_tm, List.getD_cons_zero, List.getD_cons_succ, List.set_cons_zero, List.set_cons_succ, List.append_nil, List.map_nil, List.all_cons, List.all_nil, Bool.and_self, Bool.true_or, Nat.reduceAdd, Nat.reduceSub, Nat.reduceMul, List.replicate, evK_go, reduceIte, decide_true, Nat.reduceEqDiff, Nat.reduceLT, and_self, List.foldl_cons, List.foldl_nil]
        (repeat (first | refine OrH.l ?_ | refine ⟨⟨rfl, by decide⟩, ?_⟩ | refine ⟨by decide, ?_⟩ | refine ⟨by omega, ?_⟩ | exact ⟨rfl, by decide⟩ | decide))
  obtain ⟨hf0, hf1⟩ := inW_iff.1 hin
  obtain ⟨F, rfl⟩ : ∃ F : Nat, f = (F : Int) := ⟨f.toNat, by omega⟩
  have hF : F < m := by omega
  have e1 : domE (m : Int) l (F : Int) = 0 := by unfold domE; rw [if_pos hc, hin]; rfl
  have hov : ∀ i, i < m → ovrR m l F i = pts ((ovL m (natL l) F).getD i default) := fun i hi => ovr_eq (by omega) hgo hg hF hi
  have hWl : (ovL m (natL l) F).length = m := ovL_len _ _ _
  have hWb : ∀ i j, j ∈ pts ((ovL m (natL l) F).getD i default) → j < m := fun i j h => ((ovL_pts (by omega) hg hF i j).1 h).1
  have e2 : domOf (m : Int) l (F : Int) = (ovL m (natL l) F).map ptsI := by unfold domOf; rw [if_pos e1, Int.toNat_natCast, Int.toNat_natCast]
  have e3 : domLast (m : Int) l (F : Int) = lastL m (ovL m (natL l) F) := by unfold domLast; rw [if_pos e1, Int.toNat_natCast, Int.toNat_natCast]
  generalize ovL m (natL l) F = W at *
  obtain ⟨A, hA⟩ : ∃ A, A = W.map pts := ⟨_, rfl⟩
  have hAl : A.length = m := by rw [hA, List.length_map, hWl]
  have hAg : ∀ i, i < m → A.getD i default = pts (W.getD i default) := fun i hi => by rw [hA]; exact getD_map_pts W (by omega)
  have hAc : A.map lnR = (W.map ptsI).map liD := by
    rw [hA, List.map_map, List.map_map]
    refine List.map_congr_left fun s _ => ?_
    show lnR (pts s) = liD (ptsI s)
    unfold lnR liD ptsI
    rw [nD_ints]
  have hlast : ∀ i, i < m → bestP A i (A.getD i default).length = (lastL m W).getD i default := fun i hi => by
    have h1 := best_last (W := W) (i := i) (by omega) (fun j hj => by rw [hWl]; exact hWb i j hj)
    have h2 : (lastL m W).getD i default = lastI W i := range_getD _ hi
    rw [h2, ← h1, ← hA]; rfl
  have hLl : (lastL m W).length = m := by simp [lastL]
  have hrow : ∀ i, i < m → D.l (List.map nD (pts (W.getD i default))) = lnR (A.getD i default) := fun i hi => by rw [hAg i hi]; rfl
  simp (implicitDefEqProofs := false) (dsimp := false) only [↓aw_seq, ↓aw_block, ↓aw_skip, ↓aw_loop, ↓aw_reg, ↓Qseq_n, ↓ops_nil, ↓ops_cons, ↓eval_int, ↓eval_nil, ↓put_some, ↓op_assign, List.set_cons_zero, List.set_cons_succ, Nat.reduceAdd, Nat.reduceSub, Nat.reduceMul, evK_go, reduceIte, Nat.reduceEqDiff, Nat.reduceLT]
  refine loopW (fun i : Nat => { tm := slots 131 [(0, .d (I .i64 (m : Int))), (1, .d (.l (l.map lnD))), (2, .d (I .i64 (F : Int))), (7, .d (I .i64 0)), (8, .o 0 0 i), (9, .nl), (10, .d (I .i64 i))], bx := [], rw := [some ⟨1, (A.take i).map lnR⟩] })
    (fun i => i ≤ m) (fun i => m - i) 0 (by simp) ?_ ?_
  · refine Wkn.of [] [none] ?_
    simp (implicitDefEqProofs := false) (dsimp := false) only [List.take_zero, List.map_nil, ↓row_xs, List.set_cons_zero, List.set_cons_succ, List.map_nil, Bool.and_self, Nat.reduceAdd, Nat.reduceSub, Nat.reduceMul, List.replicate, evK_go, reduceIte, Nat.reduceEqDiff, Nat.reduceLT, and_self, List.take_zero, List.foldl_cons, List.foldl_nil, Int.cast_ofNat_Int, slots, wkL_nil, wkL_cons, wkB_nil, wkR_nil, wkR_new, wkV_j, wkV_d, wkV_nl, nlK_nl, wkV_o, frz_d, oK_zn, reduceCtorEq]
  · intro i hi
    have htl : (A.take i).length = i := by rw [List.length_take]; omega
    simp (implicitDefEqProofs := false) (dsimp := false) only [slots, ↓gdK_t, ↓gval_mk, ↓gvL_zero, ↓gvL_succ, ↓aw_seq, ↓aw_reg, ↓ops_cons, ↓ops_guard, ↓eval_tmp, ↓put_some, ↓binE_i, ↓bi_lss, ↓op_move, ↓op_bin, ↓st_tm, List.getD_cons_zero, List.getD_cons_succ, List.set_cons_zero, List.set_cons_succ, Nat.reduceAdd, Nat.reduceSub, Nat.reduceMul, List.replicate, evK_go, reduceIte, Nat.reduceEqDiff, Nat.reduceLT, List.foldl_cons, List.foldl_nil, Int.ofNat_lt]
    by_cases him : i < m
    · have d1 := decide_eq_true him
      have hro : (m ≤ 40 ∧ l.length < 2 ^ 62) ∧ F < m ∧ i < m := ⟨⟨by omega, hl62⟩, hF, him⟩
      have hoi := hov i him
      have hri := hrow i him
      have hsn := take_succ_getD (l := A) (k := i) (by omega)
      simp (implicitDefEqProofs := false) (dsimp := false) only [rover_call, hro, hoi, htl, ↓cdK_true, ↓gdK_t, ↓gval_mk, ↓gvL_zero, ↓gvL_succ, ↓optK_some, ↓rwK_H, ↓aw_cond, ↓aw_seq, ↓aw_block, ↓aw_skip, ↓aw_reg, ↓Qseq_n, ↓Qblk_n, ↓ops_nil, ↓ops_cons, ↓ops_guard, ↓eval_tmp, ↓eval_int, ↓eval_func, ↓put_some, ↓bK_b, ↓dK_d, ↓binE_i, ↓bi_add, ↓bi_eql, ↓in_i64, ↓op_move, ↓op_assign, ↓op_pick, ↓op_bin, ↓op_append, ↓op_call, isD_d, ↓fnK_f, ↓call_H, ↓callK_H, ↓allT_nil, ↓allT_cons, ↓allD_nil, ↓allD_cons, ↓td_d, ↓app_mk, ↓st_tm, ↓row_sz, ↓row_xs, kill_d, kill_j, kill_nl, kill_o, ↓cells_l, ↓one_l, ↓ap_, ↓ap_o, ↓src_l, ↓bs_, ↓op_bs, ↓bsL_f, ↓stored_mk, ↓sl_nil, ↓sl_cons, ↓sT_move, ↓sT_assign, ↓sT_bs, ↓sT_call, ↓vsz_slice, ↓inO_1, ↓fm_nil, ↓fm_cons, ↓ty24, ↓zb24, ↓sl69, List.getD_cons_zero, List.getD_cons_succ, List.set_cons_zero, List.set_cons_succ, List.append_nil, List.map_cons, List.map_nil, List.length_cons, List.length_nil, List.length_map, List.all_cons, List.all_nil, Bool.true_and, Bool.and_self, Bool.true_or, Bool.or_false, Nat.reduceAdd, Nat.reduceSub, Nat.reduceMul, Nat.zero_add, evK_go, reduceIte, decide_true, Nat.reduceEqDiff, Nat.reduceLT, and_self, true_and, Int.zero_add, List.drop_zero]
      (repeat refine OrH.l ?_)
      refine ⟨by decide, ⟨fun _ => trivial, by omega, by omega⟩, by omega, i + 1, by omega, by omega, ?_⟩
      refine Wkn.of [] [some 0] ?_
      simp (implicitDefEqProofs := false) (dsimp := false) only [hsn, hri, List.map_append, List.getD_cons_zero, List.set_cons_zero, List.set_cons_succ, List.map_cons, List.map_nil, Bool.and_self, Nat.reduceAdd, Nat.reduceSub, Nat.reduceMul, List.replicate, evK_go, reduceIte, Nat.reduceEqDiff, Nat.reduceLT, and_self, List.foldl_cons, List.foldl_nil, Int.cast_ofNat_Int, Int.natCast_add, slots, wkL_nil, wkL_cons, wkB_nil, wkR_nil, wkR_some, wkV_j, wkV_d, wkV_nl, nlK_nl, wkV_o, frz_d, oK_zs, reduceCtorEq]
    obtain rfl : i = m := by omega
    have d1 := decide_eq_false him
    have htA : A.take i = A := List.take_of_length_le (by omega)
    have htA2 : List.take i (A.map lnR) = A.map lnR := List.take_of_length_le (by simp [hAl])
    simp (implicitDefEqProofs := false) (dsimp := false) only [htA, ↓cdK_false, ↓gdK_t, ↓gval_mk, ↓gvL_zero, ↓gvL_succ, ↓aw_cond, ↓aw_seq, ↓aw_block, ↓aw_exit, ↓aw_loop, ↓aw_reg, ↓Qseq_n, ↓Qseq_x, ↓Qblk_x, ↓ops_nil, ↓ops_cons, ↓ops_guard, ↓eval_tmp, ↓eval_int, ↓eval_bool, ↓put_some, ↓bK_b, ↓op_assign, ↓op_pick, ↓st_tm, List.getD_cons_zero, List.getD_cons_succ, List.set_cons_zero, List.set_cons_succ, Nat.reduceAdd, Nat.reduceSub, Nat.reduceMul, evK_go, reduceIte, decide_false, Nat.reduceEqDiff, Nat.reduceLT, Nat.lt_irrefl]
    refine loopW (fun a : Nat => { tm := slots 131 [(0, .d (I .i64 (i : Int))), (1, .d (.l (l.map lnD))), (2, .d (I .i64 (F : Int))), (7, .d (I .i64 0)), (8, .d (.l (A.map lnR))), (9, .o 0 0 a), (11, .d (I .i64 a))], bx := [], rw := [some ⟨1, ((lastL i W).take a).map (I .i64)⟩] })
      (fun a => a ≤ i) (fun a => i - a) 0 (by simp) ?_ ?_
    · refine Wkn.of [] [none] ?_
      simp (implicitDefEqProofs := false) (dsimp := false) only [htA2, List.take_zero, List.map_nil, ↓optK_some, ↓row_xs, List.getD_cons_zero, List.set_cons_zero, List.set_cons_succ, List.map_nil, Bool.and_self, Nat.reduceAdd, Nat.reduceSub, Nat.reduceMul, List.replicate, evK_go, reduceIte, Nat.reduceEqDiff, Nat.reduceLT, and_self, not_false_eq_true, List.drop_zero, List.take_zero, List.foldl_cons, List.foldl_nil, Int.cast_ofNat_Int, slots, wkL_nil, wkL_cons, wkB_nil, wkR_nil, wkR_new, wkV_j, wkV_d, nlK_nl, wkV_o, frz_d, frz_o, oK_zn, dl_eq, reduceCtorEq, List.mem_cons, List.not_mem_nil, or_self]
    · intro a ha
      have hta : ((lastL i W).take a).length = a := by rw [List.length_take]; omega
      simp (implicitDefEqProofs := false) (dsimp := false) only [slots, ↓gdK_t, ↓gval_mk, ↓gvL_zero, ↓gvL_succ, ↓aw_seq, ↓aw_reg, ↓ops_cons, ↓ops_guard, ↓eval_tmp, ↓put_some, ↓binE_i, ↓bi_lss, ↓op_move, ↓op_bin, ↓st_tm, List.getD_cons_zero, List.getD_cons_succ, List.set_cons_zero, List.set_cons_succ, Nat.reduceAdd, Nat.reduceSub, Nat.reduceMul, List.replicate, evK_go, reduceIte, Nat.reduceEqDiff, Nat.reduceLT, List.foldl_cons, List.foldl_nil, Int.ofNat_lt]
      by_cases hai : a < i
      rotate_left
      · obtain rfl : a = i := by omega
        have d2 := decide_eq_false hai
        have htL : (lastL a W).take a = lastL a W := List.take_of_length_le (by omega)
        have htL2 : List.take a ((lastL a W).map (I .i64)) = (lastL a W).map (I .i64) := List.take_of_length_le (by simp [hLl])
        have hw1 : W.length < 2 ^ 62 ∧ ∀ x ∈ W.map ptsI, x.length < 2 ^ 62 := by
          refine ⟨by omega, fun x hx => ?_⟩
          obtain ⟨s, _, rfl⟩ := List.mem_map.1 hx
          have := ptsI_len s
          omega
        have hw2 : (lastL a W).length < 2 ^ 62 := by omega
        simp (implicitDefEqProofs := false) (dsimp := false) only [htL, htL2, hAc, dof_call, dlast_call, hl62, e1, e2, e3, eerr_call, erows_call, hw1, ints_call, hw2, ↓cdK_true, ↓cdK_false, ↓gdK_t, ↓gval_mk, ↓gvL_zero, ↓gvL_succ, ↓optK_some, ↓rwK_H, ↓nthK_H, ↓nthH_zero, ↓nthH_succ, ↓aw_cond, ↓aw_seq, ↓aw_exit, ↓aw_ret, ↓aw_reg, ↓Qseq_n, ↓Qseq_x, ↓Qblk_x, ↓Qret_r, ↓ops_nil, ↓ops_cons, ↓ops_guard, ↓eval_tmp, ↓eval_bool, ↓eval_func, ↓put_some, ↓bK_b, ↓tK_t, ↓op_move, ↓op_assign, ↓op_pick, ↓op_extract, ↓op_call, isD_d, isD_o, ↓fnK_f, ↓call_H, ↓callK_H, ↓allT_nil, ↓allT_cons, ↓td_d, ↓td_o, ↓ret_1, ↓st_tm, ↓row_xs, List.getD_cons_zero, List.getD_cons_succ, List.set_cons_zero, List.set_cons_succ, List.append_nil, List.length_map, List.all_cons, List.all_nil, Bool.and_true, Bool.true_and, Bool.and_self, Bool.and_false, Bool.true_or, Bool.false_or, Nat.reduceAdd, Nat.reduceSub, Nat.reduceMul, evK_go, reduceIte, decide_true, decide_false, Nat.reduceEqDiff, Nat.reduceLT, and_self, true_and, and_true, Nat.lt_irrefl, List.drop_zero]
        (repeat (first | refine OrH.l ?_ | refine ⟨⟨rfl, by decide⟩, ?_⟩ | refine ⟨by decide, ?_⟩ | refine ⟨by omega, ?_⟩ | exact ⟨rfl, by decide⟩ | decide))
        refine ⟨hw1.2, ?_⟩
        (repeat (first | refine OrH.l ?_ | refine ⟨⟨rfl, by decide⟩, ?_⟩ | refine ⟨by decide, ?_⟩ | refine ⟨by omega, ?_⟩ | exact ⟨rfl, by decide⟩ | decide))
      have d2 := decide_eq_true hai
      have haA : a < A.length := by omega
      have hrng := bestP_rng (A := A) (n := i) (i := a) (fun j hj => by
        have hj : j ∈ A.getD a default := hj
        rw [hAg a hai] at hj; exact hWb a j hj)
      have hla := hlast a hai
      have hsl := take_succ_getD (l := lastL i W) (k := a) (by omega)
      have hlen64 : (A.getD a default).length ≤ 64 := by rw [hAg a hai]; exact pts_len _
      simp (implicitDefEqProofs := false) (dsimp := false) only [d2, ↓cdK_true, ↓gdK_t, ↓gval_mk, ↓gvL_zero, ↓gvL_succ, ↓aw_cond, ↓aw_seq, ↓aw_block, ↓aw_skip, ↓aw_loop, ↓aw_reg, ↓Qseq_n, ↓ops_nil, ↓ops_cons, ↓ops_guard, ↓eval_tmp, ↓eval_int, ↓put_some, ↓bK_b, ↓binE_i, ↓bi_eql, ↓op_move, ↓op_assign, ↓op_pick, ↓op_bin, ↓st_tm, List.getD_cons_zero, List.getD_cons_succ, List.set_cons_zero, List.set_cons_succ, Nat.reduceAdd, Nat.reduceSub, Nat.reduceMul, evK_go, reduceIte, decide_true, Nat.reduceEqDiff, Nat.reduceLT]
      refine loopW (fun k : Nat => { tm := slots 131 [(0, .d (I .i64 (i : Int))), (1, .d (.l (l.map lnD))), (2, .d (I .i64 (F : Int))), (7, .d (I .i64 0)), (8, .d (.l (A.map lnR))), (9, .o 0 0 a), (11, .d (I .i64 a)), (12, .d (I .i64 (bestP A a k))), (13, .d (I .i64 k))], bx := [], rw := [some ⟨1, ((lastL i W).take a).map (I .i64)⟩] })
        (fun k => k ≤ (A.getD a default).length) (fun k => (A.getD a default).length - k) 0 (by simp) ?_ ?_
      · refine Wkn.of [] [some 0] ?_
        simp (implicitDefEqProofs := false) (dsimp := false) only [bestP, List.take_zero, List.foldl_nil, List.getD_cons_zero, List.set_cons_zero, List.set_cons_succ, Bool.and_self, Nat.reduceAdd, Nat.reduceSub, Nat.reduceMul, List.replicate, evK_go, reduceIte, Nat.reduceEqDiff, Nat.reduceLT, and_self, List.take_zero, List.foldl_cons, List.foldl_nil, Int.cast_ofNat_Int, slots, wkL_nil, wkL_cons, wkB_nil, wkR_nil, wkR_some, wkV_j, wkV_d, wkV_o, frz_d, oK_zs, reduceCtorEq]
      · intro k hk
        have hrk := hrng k
        have hs := fun h => bestP_succ A a (k := k) h
        have hend : k = (A.getD a default).length → bestP A a k = (lastL i W).getD a default := fun e => by rw [e]; exact hla
        generalize bestP A a k = b at hrk hs hend ⊢
        simp (implicitDefEqProofs := false) (dsimp := false) only [slots, haA, lnR, ↓atK_H, ↓atH_map, ↓aw_cond, ↓aw_seq, ↓aw_reg, ↓Qseq_n, ↓ops_nil, ↓ops_cons, ↓eval_tmp, ↓put_some, ↓bK_b, ↓iK_i, ↓lenK_l, ↓binE_i, ↓bi_lss, ↓ldK_q, ↓iaK_l, ↓op_move, ↓op_load, ↓op_bin, ↓op_ia, ↓op_len, ↓cells_l, ↓hd_cons, ↓ty24, ↓sl24, ↓sl69, List.getD_cons_zero, List.getD_cons_succ, List.set_cons_zero, List.set_cons_succ, List.length_cons, List.length_nil, List.length_map, Bool.true_and, Nat.reduceAdd, Nat.reduceSub, Nat.reduceMul, Nat.zero_add, Int.toNat_natCast, List.replicate, evK_go, reduceIte, Nat.reduceEqDiff, Nat.reduceLT, true_and, Int.zero_add, List.foldl_cons, List.foldl_nil, Int.ofNat_lt, Int.natCast_nonneg]
        refine cdK_dec (fun h => ?_) (fun h => ?_)
        rotate_left
        · have hb := hend (by omega)
          simp (implicitDefEqProofs := false) (dsimp := false) only [hb, hta, ↓optK_some, ↓rwK_H, ↓aw_seq, ↓aw_exit, ↓aw_reg, ↓Qseq_n, ↓Qseq_x, ↓Qblk_n, ↓Qblk_x, ↓ops_nil, ↓ops_cons, ↓eval_tmp, ↓eval_int, ↓eval_func, ↓put_some, ↓dK_d, ↓binE_i, ↓bi_add, ↓in_i64, ↓op_move, ↓op_assign, ↓op_bin, ↓op_append, ↓op_call, isD_d, ↓fnK_f, ↓call_H, ↓callK_H, ↓allT_nil, ↓allT_cons, ↓allD_nil, ↓allD_cons, ↓td_d, ↓app_mk, ↓row_sz, ↓row_xs, kill_d, kill_j, kill_o, ↓cells_c, ↓one_i, ↓ap_, ↓ap_o, ↓src_l, ↓bs_, ↓op_bs, ↓bsL_f, ↓stored_mk, ↓sl_nil, ↓sl_cons, ↓sT_move, ↓sT_assign, ↓sT_bs, ↓sT_call, ↓vsz_int, ↓inO_1, ↓fm_nil, ↓fm_cons, ↓ty3, ↓zb3, ↓sl24, List.getD_cons_zero, List.getD_cons_succ, List.set_cons_zero, List.set_cons_succ, List.append_nil, List.map_cons, List.map_nil, List.length_cons, List.length_nil, List.length_map, List.all_cons, List.all_nil, Bool.true_and, Bool.and_self, Bool.or_false, Nat.reduceAdd, Nat.reduceSub, Nat.reduceMul, Nat.zero_add, evK_go, reduceIte, Nat.reduceEqDiff, Nat.reduceLT, and_self, true_and, Int.zero_add, List.drop_zero]
          refine ⟨by decide, ⟨fun _ => trivial, by omega, by omega⟩, by omega, a + 1, by omega, by omega, ?_⟩
          refine Wkn.of [] [some 0] ?_
          simp (implicitDefEqProofs := false) (dsimp := false) only [hsl, List.map_append, List.getD_cons_zero, List.set_cons_zero, List.set_cons_succ, List.map_cons, List.map_nil, Bool.and_self, Nat.reduceAdd, Nat.reduceSub, Nat.reduceMul, List.replicate, evK_go, reduceIte, Nat.reduceEqDiff, Nat.reduceLT, and_self, List.foldl_cons, List.foldl_nil, Int.cast_ofNat_Int, Int.natCast_add, slots, wkL_nil, wkL_cons, wkB_nil, wkR_nil, wkR_some, wkV_j, wkV_d, wkV_o, frz_d, oK_zs, reduceCtorEq]
        have hkl : k < (A.getD a default).length := by omega
        have hs : bestP A a (k + 1) = bestR A a b ((A.getD a default).getD k default) := hs hkl
        have hjm : (A.getD a default).getD k default < i := by
          have := getD_mem hkl
          rw [hAg a hai] at this ⊢
          exact hWb a _ this
        generalize hjd : (A.getD a default).getD k default = j at hs hjm
        have hjA : j < A.length := by omega
        have hR : bestR A a b j = if j ≠ a ∧ (b < 0 ∨ (A.getD b.toNat default).length < (A.getD j default).length) then (j : Int) else b := rfl
        by_cases hja : j = a
        · have e : bestP A a (k + 1) = b := by rw [hs, hR, if_neg (fun h => h.1 hja)]
          have d3 := decide_eq_true hja
          have d4 : decide (j ≠ a) = false := decide_eq_false (fun h => h hja)
          simp (implicitDefEqProofs := false) (dsimp := false) only [haA, hkl, hjd, nD, lnR, d3, ↓cdK_false, ↓gdK_junk, ↓gdK_t, ↓gval_mk, ↓gvL_zero, ↓gvL_succ, ↓atK_H, ↓atH_map, ↓aw_cond, ↓aw_seq, ↓aw_block, ↓aw_skip, ↓aw_reg, ↓aw_draw, ↓Qseq_n, ↓Qblk_n, ↓ops_nil, ↓ops_cons, ↓eval_tmp, ↓eval_int, ↓eval_bool, ↓put_some, ↓bK_b, ↓iK_i, ↓ev_move, ↓ev_pick, ↓ev_bin, ↓binE_i, ↓bi_add, ↓bi_neq, ↓in_i64, ↓ldK_q, ↓iaK_l, ↓op_move, ↓op_assign, ↓op_load, ↓op_bin, ↓op_ia, ↓draw_H, ↓h_nil, ↓h_cons, ↓ldH_n, ↓ldH_g, ↓q_move, ↓q_pick, ↓q_bin, ↓il_move, ↓il_pick, ↓il_load, ↓il_bin, ↓il_ia, ↓il_len, ↓st_tm, ↓cells_c, ↓cells_l, ↓hd_cons, ↓ty3, ↓ty24, ↓sl24, ↓sl69, List.getD_cons_zero, List.getD_cons_succ, List.set_cons_zero, List.set_cons_succ, List.length_cons, List.length_nil, Bool.true_and, Nat.reduceAdd, Nat.reduceSub, Nat.reduceMul, Nat.zero_add, Int.toNat_natCast, evK_go, reduceIte, decide_true, Bool.not_true, Nat.reduceEqDiff, Nat.reduceLT, true_and, Int.zero_add, Int.natCast_nonneg, Int.natCast_inj]
          refine OrH.l ⟨DrawH.of follows_mixed (by kernel_rfl), ?_⟩
          refine ⟨by omega, k + 1, by omega, by omega, ?_⟩
          refine Wkn.of [] [some 0] ?_
          simp (implicitDefEqProofs := false) (dsimp := false) only [e, List.getD_cons_zero, List.set_cons_zero, List.set_cons_succ, Bool.and_self, Nat.reduceAdd, Nat.reduceSub, Nat.reduceMul, List.replicate, evK_go, reduceIte, Nat.reduceEqDiff, Nat.reduceLT, and_self, List.foldl_cons, List.foldl_nil, Int.cast_ofNat_Int, Int.natCast_add, slots, wkL_nil, wkL_cons, wkB_nil, wkR_nil, wkR_some, wkV_j, wkV_d, wkV_o, frz_d, oK_zs, reduceCtorEq]
        have d3 := decide_eq_false hja
        have d4 : decide (j ≠ a) = true := decide_eq_true hja
        rcases hrk with rfl | ⟨x, rfl, hx⟩
        · have e : bestP A a (k + 1) = (j : Int) := by rw [hs, hR, if_pos ⟨hja, .inl (by decide)⟩]
          have d5 : decide ((-1 : Int) < 0) = true := by decide
          simp (implicitDefEqProofs := false) (dsimp := false) only [haA, hkl, hjd, nD, lnR, d3, d5, ↓cdK_true, ↓gdK_t, ↓gdK_f, ↓gval_mk, ↓gvL_zero, ↓gvL_succ, ↓atK_H, ↓atH_map, ↓aw_cond, ↓aw_seq, ↓aw_block, ↓aw_skip, ↓aw_reg, ↓aw_draw, ↓Qseq_n, ↓Qblk_n, ↓ops_nil, ↓ops_cons, ↓eval_tmp, ↓eval_int, ↓eval_bool, ↓put_some, ↓bK_b, ↓iK_i, ↓ev_move, ↓ev_pick, ↓ev_bin, ↓binE_i, ↓bi_add, ↓bi_neq, ↓bi_lss, ↓in_i64, ↓ldK_q, ↓iaK_l, ↓op_move, ↓op_assign, ↓op_load, ↓op_bin, ↓op_ia, ↓draw_H, ↓h_nil, ↓h_cons, ↓ldH_n, ↓ldH_g, ↓q_move, ↓q_pick, ↓q_bin, ↓il_move, ↓il_pick, ↓il_load, ↓il_bin, ↓il_ia, ↓il_len, ↓st_tm, ↓cells_c, ↓cells_l, ↓hd_cons, ↓ty3, ↓ty24, ↓sl24, ↓sl69, List.getD_cons_zero, List.getD_cons_succ, List.set_cons_zero, List.set_cons_succ, List.length_cons, List.length_nil, Bool.true_and, Nat.reduceAdd, Nat.reduceSub, Nat.reduceMul, Nat.zero_add, Int.toNat_natCast, evK_go, reduceIte, decide_true, Bool.not_false, Nat.reduceEqDiff, Nat.reduceLT, true_and, Int.zero_add, Int.natCast_nonneg, Int.natCast_inj]
          refine OrH.l ⟨DrawH.of follows_mixed (by kernel_rfl), ?_⟩
          refine ⟨by omega, k + 1, by omega, by omega, ?_⟩
          refine Wkn.of [] [some 0] ?_
          simp (implicitDefEqProofs := false) (dsimp := false) only [e, List.getD_cons_zero, List.set_cons_zero, List.set_cons_succ, Bool.and_self, Nat.reduceAdd, Nat.reduceSub, Nat.reduceMul, List.replicate, evK_go, reduceIte, Nat.reduceEqDiff, Nat.reduceLT, and_self, List.foldl_cons, List.foldl_nil, Int.cast_ofNat_Int, Int.natCast_add, slots, wkL_nil, wkL_cons, wkB_nil, wkR_nil, wkR_some, wkV_j, wkV_d, wkV_o, frz_d, oK_zs, reduceCtorEq]
        · have d5 : decide ((x : Int) < 0) = false := decide_eq_false (by omega)
          have hxA : x < A.length := by omega
          by_cases hlt : (A.getD x default).length < (A.getD j default).length
          · have e : bestP A a (k + 1) = (j : Int) := by rw [hs, hR, Int.toNat_natCast, if_pos ⟨hja, .inr hlt⟩]
            have d6 := decide_eq_true hlt
            simp (implicitDefEqProofs := false) (dsimp := false) only [haA, hkl, hjd, nD, lnR, d3, d5, hxA, hjA, d6, ↓cdK_true, ↓cdK_false, ↓gdK_t, ↓gdK_f, ↓gval_mk, ↓gvL_zero, ↓gvL_succ, ↓atK_H, ↓atH_map, ↓aw_cond, ↓aw_seq, ↓aw_block, ↓aw_skip, ↓aw_reg, ↓aw_draw, ↓Qseq_n, ↓Qblk_n, ↓ops_nil, ↓ops_cons, ↓eval_tmp, ↓eval_int, ↓put_some, ↓bK_b, ↓iK_i, ↓lenK_l, ↓ev_move, ↓ev_pick, ↓ev_load, ↓ev_bin, ↓ev_ia, ↓ev_len, ↓binE_i, ↓bi_add, ↓bi_neq, ↓bi_lss, ↓bi_gtr, ↓in_i64, ↓ldK_q, ↓iaK_l, ↓op_move, ↓op_assign, ↓op_load, ↓op_bin, ↓op_ia, ↓draw_H, ↓h_nil, ↓h_cons, ↓ldH_n, ↓ldH_g, ↓q_bi, ↓q_move, ↓q_pick, ↓q_load, ↓q_bin, ↓q_ia, ↓il_move, ↓il_pick, ↓il_load, ↓il_bin, ↓il_ia, ↓il_len, ↓st_tm, ↓cells_c, ↓cells_l, ↓hd_cons, ↓ty3, ↓ty24, ↓sl24, ↓sl69, List.getD_cons_zero, List.getD_cons_succ, List.set_cons_zero, List.set_cons_succ, List.length_cons, List.length_nil, List.length_map, Bool.true_and, Nat.reduceAdd, Nat.reduceSub, Nat.reduceMul, Nat.zero_add, Int.toNat_natCast, evK_go, reduceIte, decide_true, Bool.not_false, Nat.reduceEqDiff, Nat.reduceLT, true_and, Int.zero_add, Int.ofNat_lt, Int.natCast_nonneg, Int.natCast_inj]
            refine OrH.l ⟨DrawH.of follows_mixed (by kernel_rfl), ?_⟩
            refine ⟨by omega, k + 1, by omega, by omega, ?_⟩
            refine Wkn.of [] [some 0] ?_
            simp (implicitDefEqProofs := false) (dsimp := false) only [e, List.getD_cons_zero, List.set_cons_zero, List.set_cons_succ, Bool.and_self, Nat.reduceAdd, Nat.reduceSub, Nat.reduceMul, List.replicate, evK_go, reduceIte, Nat.reduceEqDiff, Nat.reduceLT, and_self, List.foldl_cons, List.foldl_nil, Int.cast_ofNat_Int, Int.natCast_add, slots, wkL_nil, wkL_cons, wkB_nil, wkR_nil, wkR_some, wkV_j, wkV_d, wkV_o, frz_d, oK_zs, reduceCtorEq]
          · have e : bestP A a (k + 1) = (x : Int) := by rw [hs, hR, Int.toNat_natCast, if_neg (fun h => h.2.elim (fun h => by omega) hlt)]
            have d6 := decide_eq_false hlt
            simp (implicitDefEqProofs := false) (dsimp := false) only [haA, hkl, hjd, nD, lnR, d3, d5, hxA, hjA, d6, ↓cdK_true, ↓cdK_false, ↓gdK_t, ↓gdK_f, ↓gval_mk, ↓gvL_zero, ↓gvL_succ, ↓atK_H, ↓atH_map, ↓aw_cond, ↓aw_seq, ↓aw_block, ↓aw_skip, ↓aw_reg, ↓aw_draw, ↓Qseq_n, ↓Qblk_n, ↓ops_nil, ↓ops_cons, ↓eval_tmp, ↓eval_int, ↓put_some, ↓bK_b, ↓iK_i, ↓lenK_l, ↓ev_move, ↓ev_pick, ↓ev_load, ↓ev_bin, ↓ev_ia, ↓ev_len, ↓binE_i, ↓bi_add, ↓bi_neq, ↓bi_lss, ↓bi_gtr, ↓in_i64, ↓ldK_q, ↓iaK_l, ↓op_move, ↓op_assign, ↓op_load, ↓op_bin, ↓op_ia, ↓draw_H, ↓h_nil, ↓h_cons, ↓ldH_n, ↓ldH_g, ↓q_bi, ↓q_move, ↓q_pick, ↓q_load, ↓q_bin, ↓q_ia, ↓il_move, ↓il_pick, ↓il_load, ↓il_bin, ↓il_ia, ↓il_len, ↓st_tm, ↓cells_c, ↓cells_l, ↓hd_cons, ↓ty3, ↓ty24, ↓sl24, ↓sl69, List.getD_cons_zero, List.getD_cons_succ, List.set_cons_zero, List.set_cons_succ, List.length_cons, List.length_nil, List.length_map, Bool.true_and, Nat.reduceAdd, Nat.reduceSub, Nat.reduceMul, Nat.zero_add, Int.toNat_natCast, evK_go, reduceIte, decide_true, Bool.not_false, Nat.reduceEqDiff, Nat.reduceLT, true_and, Int.zero_add, Int.ofNat_lt, Int.natCast_nonneg, Int.natCast_inj]
            refine OrH.l ⟨DrawH.of follows_mixed (by kernel_rfl), ?_⟩
            refine ⟨by omega, k + 1, by omega, by omega, ?_⟩
            refine Wkn.of [] [some 0] ?_
            simp (implicitDefEqProofs := false) (dsimp := false) only [e, List.getD_cons_zero, List.set_cons_zero, List.set_cons_succ, Bool.and_self, Nat.reduceAdd, Nat.reduceSub, Nat.reduceMul, List.replicate, evK_go, reduceIte, Nat.reduceEqDiff, Nat.reduceLT, and_self, List.foldl_cons, List.foldl_nil, Int.cast_ofNat_Int, Int.natCast_add, slots, wkL_nil, wkL_cons, wkB_nil, wkR_nil, wkR_some, wkV_j, wkV_d, wkV_o, frz_d, oK_zs, reduceCtorEq]
end Go.Proofs

namespace Go.Proofs
set_option maxRecDepth 100000
theorem cutNo : ("cut".toList == "gc".toList || "cut".toList == "spec".toList) = false := by kernel_rfl
theorem cutNo2 : ("cut".toList == "carried".toList) = false := by kernel_rfl
theorem cutStrip (T : List (List Char)) : stripLifts liftWords ("cut".toList :: T) = ([], "cut".toList :: T) := by kernel_rfl
theorem make_of {P : Program} {T : List (List Char)} (h : behindMainWord (wordsSigns P.initOrder.toList) = "cut".toList :: T) : P.make = some .cut := by
  unfold Program.make
  rw [h]
  simp (implicitDefEqProofs := false) (dsimp := false) only [cutNo, beq_self_eq_true, Bool.true_or, Bool.false_eq_true, if_false, if_true]
theorem enter_of {P : Program} {T : List (List Char)} (h : behindMainWord (wordsSigns P.initOrder.toList) = "cut".toList :: T) (h1 : P.laysLater = false) (h2 : P.bearsReflect = false) (h3 : P.doorFits [] = true) : P.mayEnter = true := by
  unfold Program.mayEnter
  rw [h]
  simp (implicitDefEqProofs := false) (dsimp := false) only [cutStrip, cutNo, cutNo2, h1, h2, h3, List.head?_cons, beq_self_eq_true, Bool.not_false, Bool.or_true, Bool.and_true, Bool.true_and]
  rfl
theorem final_of {P : Program} {T : List (List Char)} (h : behindMainWord (wordsSigns P.initOrder.toList) = "cut".toList :: T) : P.liftsFinal = false := by
  unfold Program.liftsFinal Program.headLifts
  rw [h]
  simp (implicitDefEqProofs := false) (dsimp := false) only [cutStrip]
  kernel_rfl
theorem cutWord : behindMainWord (wordsSigns Tryd.prog.initOrder.toList) = "cut".toList :: (behindMainWord (wordsSigns Tryd.prog.initOrder.toList)).tail := by
  have h : Tryd.prog.initOrder.toList = _ := String.toList_ofList
  rw [h]
  show (_ : List (List Char)) = _
  kernel_rfl
theorem pLater : Tryd.prog.laysLater = false := by
  unfold Program.laysLater
  rw [← Array.any_toList]
  kernel_rfl
theorem pReflect : Tryd.prog.bearsReflect = false := by kernel_rfl
theorem pDoor : Tryd.prog.doorFits [] = true := by kernel_rfl
theorem pMake : Tryd.prog.make = some .cut := make_of cutWord
theorem pEnter : Tryd.prog.mayEnter = true := enter_of cutWord pLater pReflect pDoor
theorem pFinal : Tryd.prog.liftsFinal = false := final_of cutWord
theorem pLaid : laidOutB Tryd.prog = true := by kernel_rfl
theorem pRowed : mapsRowed Tryd.prog = true := by kernel_rfl
theorem pStops : (Tryd.prog.stops == []) = true := by kernel_rfl
theorem pKnobs : (Tryd.prog.stopKnobs == []) = true := by kernel_rfl
theorem pHeard : Tryd.prog.stopsHeard = true := by kernel_rfl
theorem pMain : Tryd.prog.mainIs = some (true, "ef528b23815b70c2662300e7e3ba81efdd8130d758234ace3c638d7836b90011".toList) := by
  have h : Tryd.prog.initOrder.toList = _ := String.toList_ofList
  unfold Program.mainIs
  rw [h]
  show (_ : Option (Bool × List Char)) = _
  kernel_rfl
theorem pLooks : true = Tryd.prog.looks [] := by kernel_rfl
theorem pOwn : ownKnob Tryd.prog.godebug = none := by kernel_rfl
theorem andB {a b : Bool} (ha : a = true) (hb : b = true) : (a && b) = true := by rw [ha, hb]; rfl
end Go.Proofs
