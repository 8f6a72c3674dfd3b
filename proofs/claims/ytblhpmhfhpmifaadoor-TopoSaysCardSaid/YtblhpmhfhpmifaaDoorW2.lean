/- Part W 2 of what the proof of TopoSays stands on: what the functions of the program compute. -/
import Derived.Test.YtblhpmhfhpmifaaDoorW1
import Derived.WalkKit
import Derived.LaidEql
import Derived.Stop.Asserts
import Derived.RowKitTokens
import Derived.Test.YtblhpmhfhpmifaaDoorRows
import Derived.ProofKit
import Derived.LaidLaws
import Derived.LaidHandle
import Derived.Stop.Joined
import Derived.SevenTiedAt
import Derived.JoinedOf
import Derived.JoinedCond
import Derived.SizedLaws
import Derived.ReadAgain
import Derived.Deep.SlicePairs
import Derived.Deep.Matrix
import Derived.Lib.SmallJoins
set_option linter.unusedVariables false
set_option linter.unusedSimpArgs false
namespace Go.Proofs
open Go.Aw
set_option linter.unusedSimpArgs false
set_option maxRecDepth 10000
def deepR (n : Int) (l : List (Int × Int)) : List Nat := if topoE n l = 0 then deepS n.toNat (natL l) (topoL n l) else []
theorem deepJ_le {i : Nat} {s : List Nat} {j B : Nat} (h : ∀ x, s.getD x default ≤ B) : ∀ x, (deepJ i s j).getD x default ≤ B + 1 := fun x => by
  unfold deepJ
  rw [set_getD]
  split
  · have := h j; have := h i; omega
  · have := h x; omega
theorem deepJs_le {i : Nat} (L : List Nat) : ∀ {s : List Nat} {B : Nat}, (∀ x, s.getD x default ≤ B) → ∀ x, (L.foldl (deepJ i) s).getD x default ≤ B + L.length := by
  induction L with
  | nil => intro s B h; exact h
  | cons j L ih =>
    intro s B h x
    have := ih (deepJ_le (i := i) (j := j) h) x
    rw [List.length_cons]
    simp (implicitDefEqProofs := false) (dsimp := false) only [List.foldl_cons]
    omega
theorem deepI_le {next : List Nat} {s : List Nat} {i B : Nat} (h : ∀ x, s.getD x default ≤ B) : ∀ x, (deepI next s i).getD x default ≤ B + 64 := fun x => by
  have := deepJs_le (i := i) (pts (next.getD i default)) h x
  have := pts_len (next.getD i default)
  unfold deepI
  omega
theorem deepK_le (next o : List Nat) (n k : Nat) : ∀ x, ((o.take k).foldl (deepI next) (List.replicate n 0)).getD x default ≤ 64 * k := by
  have key : ∀ (L : List Nat) (s : List Nat) (B : Nat), (∀ x, s.getD x default ≤ B) → ∀ x, (L.foldl (deepI next) s).getD x default ≤ B + 64 * L.length := by
    intro L
    induction L with
    | nil => intro s B h x; simpa using h x
    | cons i L ih =>
      intro s B h x
      have := ih _ _ (deepI_le (next := next) (i := i) h) x
      rw [List.length_cons]
      simp (implicitDefEqProofs := false) (dsimp := false) only [List.foldl_cons]
      omega
  intro x
  have := key (o.take k) (List.replicate n 0) 0 (fun x => by
    rw [List.getD_eq_getElem?_getD, List.getElem?_replicate]
    split <;> simp) x
  have h1 : (o.take k).length ≤ k := by simp; omega
  omega
theorem deepJ_len (i : Nat) (s : List Nat) (j : Nat) : (deepJ i s j).length = s.length := by simp [deepJ]
theorem deepJs_len (i : Nat) (L : List Nat) : ∀ s : List Nat, (L.foldl (deepJ i) s).length = s.length := by
  induction L with
  | nil => intro s; rfl
  | cons j L ih => intro s; rw [List.foldl_cons, ih, deepJ_len]
theorem deepK_len (next o : List Nat) (n k : Nat) : ((o.take k).foldl (deepI next) (List.replicate n 0)).length = n := by
  have key : ∀ (L : List Nat) (s : List Nat), (L.foldl (deepI next) s).length = s.length := by
    intro L
    induction L with
    | nil => intro s; rfl
    | cons i L ih => intro s; rw [List.foldl_cons, ih, deepI, deepJs_len]
  rw [key]; simp
theorem deepw_spec (n : Int) (l : List (Int × Int)) (hpre : l.length < 2 ^ 62) : FnD Tryd.prog 26 [I .i64 n, .l (l.map lnD)] (.t [.l ((deepR n l).map nD), erD (topoE n l)]) := by
  refine FnD.go Tryd.func26 rfl rfl Tryd.results26 Tryd.ntmps26 ?_
  simp (implicitDefEqProofs := false) (dsimp := false) only [↓aw_seq, ↓aw_reg, ↓Qseq_n, ↓ops_nil, ↓ops_cons, ↓eval_tmp, ↓eval_nil, ↓eval_func, ↓put_some, ↓op_move, ↓op_assign, ↓op_call, isD_d, ↓fnK_f, ↓call_H, ↓callK_H, ↓allT_nil, ↓allT_cons, ↓td_d, List.getD_cons_zero, List.getD_cons_succ, List.set_cons_zero, List.set_cons_succ, List.cons_append, List.nil_append, List.append_nil, List.map_cons, List.map_nil, List.length_cons, List.length_nil, List.all_cons, List.all_nil, Bool.and_self, Nat.reduceAdd, Nat.reduceSub, Nat.reduceMul, Nat.zero_add, List.replicate, evK_go, reduceIte, Nat.reduceEqDiff, Nat.reduceLT, and_self, Int.zero_add]
  simp (implicitDefEqProofs := false) (dsimp := false) only [order_call, hpre, eval_nilI, ↓er_neq, ↓cdK_not, ↓nthK_H, ↓nthH_zero, ↓nthH_succ, ↓aw_cond, ↓aw_seq, ↓aw_reg, ↓Qseq_n, ↓ops_nil, ↓ops_cons, ↓eval_tmp, ↓put_some, ↓bK_b, ↓tK_t, ↓op_move, ↓op_assign, ↓op_bin, ↓op_extract, List.getD_cons_zero, List.getD_cons_succ, List.set_cons_zero, List.set_cons_succ, Bool.true_and, Bool.true_or, Nat.reduceAdd, Nat.reduceSub, Nat.reduceMul, evK_go, reduceIte, Nat.reduceEqDiff, Nat.reduceLT, true_and]
  (repeat refine OrH.l ?_)
  refine cdK_dec (fun hc => ?_) (fun hc => ?_)
  rotate_left
  · have e : deepR n l = [] := if_neg hc
    simp (implicitDefEqProofs := false) (dsimp := false) only [e, hc, ↓aw_seq, ↓aw_ret, ↓aw_reg, ↓Qseq_n, ↓Qseq_r, ↓Qret_r, ↓ops_nil, ↓ops_cons, ↓eval_tmp, ↓eval_nil, ↓put_some, ↓op_move, ↓op_assign, ↓td_d, ↓td_nl, ↓ret_2, List.getD_cons_zero, List.getD_cons_succ, List.set_cons_zero, List.set_cons_succ, List.map_nil, Nat.reduceAdd, Nat.reduceSub, Nat.reduceMul, evK_go, reduceIte, decide_false, Bool.not_false, Nat.reduceEqDiff, Nat.reduceLT]
  obtain ⟨hchk, o, ho⟩ := topoE_zero hc
  have ok := chk_ok hchk
  have ht : topoL n l = o := by unfold topoL; rw [if_pos hchk, ho]; rfl
  rw [show deepR n l = deepS n.toNat (natL l) (topoL n l) from if_pos hc, ht, lnD_nat ok.rng, hc]
  have hcr := ok.cr
  have h8 := ok.hi
  have e0 := ok.n0
  have hout := ok.out
  have hTI := topo_some (by omega) ok.good ho
  clear ok hc hpre hchk ho ht
  generalize n.toNat = m at *
  subst e0
  generalize natL l = L at *
  have hol := hTI.len
  have hom : ∀ i, i ∈ o → i < m := fun i h => hTI.mem.1 h
  have hNl := outS_len m L
  have hNt := outS_lt' (n := m) (by omega) hcr.2.2
  have hNm : ∀ i j, j ∈ pts ((outS m L).getD i default) → j < m := fun i j hj => (hcr.2.2 _ ((mem_next (by omega) hcr.2.2).1 hj)).2
  simp (implicitDefEqProofs := false) (dsimp := false) only [out_callD, hout, ↓aw_seq, ↓aw_block, ↓aw_skip, ↓aw_loop, ↓aw_reg, ↓Qseq_n, ↓ops_nil, ↓ops_cons, ↓eval_tmp, ↓eval_int, ↓eval_func, ↓put_some, ↓put_none, ↓iK_i, ↓dK_d, ↓lenK_l, ↓op_move, ↓op_assign, ↓op_len, ↓op_call, ↓op_alloc, ↓op_store, ↓op_make, isD_d, ↓fnK_f, ↓call_H, ↓callK_H, ↓allT_nil, ↓allT_cons, ↓td_d, ↓addBox_mk, ↓addRow_mk, ↓setBox_mk, ↓st_bx, ↓st_rw, ↓cells_c, ↓vcells_nl, ↓vcells_o, ↓one_i, ↓vone_o, constV_i, constV_n, ↓st_p, ↓mk_, ↓vsz_int, ↓ty3, ↓zb3, ↓ty24, ↓sl24, ↓zb24, List.getD_cons_zero, List.getD_cons_succ, List.set_cons_zero, List.set_cons_succ, List.nil_append, List.append_nil, List.length_cons, List.length_nil, List.length_map, List.all_cons, List.all_nil, Bool.and_true, Bool.true_and, Bool.and_self, Bool.true_or, Nat.reduceAdd, Nat.reduceSub, Nat.reduceMul, Nat.zero_add, Int.toNat_natCast, evK_go, reduceIte, decide_true, Bool.not_true, Nat.reduceEqDiff, Nat.reduceLT, and_self, true_and, and_true, Int.zero_add, Int.natCast_nonneg]
  (repeat refine OrH.l ?_)
  refine ⟨hout.2.2, ?_⟩
  (repeat refine OrH.l ?_)
  refine ⟨⟨by omega, by decide⟩, ?_⟩
  have hS : deepS m L o = o.foldl (deepI (outS m L)) (List.replicate m 0) := rfl
  rw [hS]
  generalize outS m L = N at *
  simp (implicitDefEqProofs := false) (dsimp := false) only [hol]
  refine loopW (fun k : Nat => { tm := slots 54 [(8, .d (.l (N.map U))), (9, .p 0 0), (27, .d (.l (o.map nD))), (28, .d (I .i64 (m : Int))), (29, .d (I .i64 k))], bx := [.o 0 0 m], rw := [some ⟨1, ((o.take k).foldl (deepI N) (List.replicate m 0)).map nD⟩] })
    (fun k => k ≤ m) (fun k => m - k) 0 (by simp) ?_ ?_
  · refine Wkn.of [0] [some 0] ?_
    simp (implicitDefEqProofs := false) (dsimp := false) only [List.foldl_nil, List.map_replicate, nD, ↓vcells_o, List.getD_cons_zero, List.set_cons_zero, List.set_cons_succ, List.length_cons, List.length_nil, Bool.and_self, Nat.reduceAdd, Nat.reduceSub, Nat.reduceMul, Nat.zero_add, List.replicate, evK_go, reduceIte, Nat.reduceEqDiff, Nat.reduceLT, and_self, Int.zero_add, List.take_zero, List.foldl_cons, List.foldl_nil, Int.cast_ofNat_Int, slots, wkL_nil, wkL_cons, wkB_nil, wkB_cons, wkR_nil, wkR_some, wkV_j, wkV_d, wkV_o, wkV_p, frz_d, oK_zs, pK_z, reduceCtorEq]
  · intro k hk
    have hSl := deepK_len N o m k
    have hSb := deepK_le N o m k
    simp (implicitDefEqProofs := false) (dsimp := false) only [slots, ↓aw_cond, ↓aw_seq, ↓aw_reg, ↓Qseq_n, ↓ops_nil, ↓ops_cons, ↓eval_tmp, ↓put_some, ↓bK_b, ↓binE_i, ↓bi_lss, ↓op_bin, List.getD_cons_zero, List.getD_cons_succ, List.set_cons_zero, List.set_cons_succ, Nat.reduceAdd, Nat.reduceSub, Nat.reduceMul, List.replicate, evK_go, reduceIte, Nat.reduceEqDiff, Nat.reduceLT, List.foldl_cons, List.foldl_nil, Int.ofNat_lt]
    refine cdK_dec (fun h => ?_) (fun h => ?_)
    · have hko : k < o.length := by omega
      have hsucc : (o.take (k + 1)).foldl (deepI N) (List.replicate m 0) = deepI N ((o.take k).foldl (deepI N) (List.replicate m 0)) (o.getD k default) := by rw [take_succ_getD hko, List.foldl_append]; rfl
      have hi := hom _ (getD_mem hko)
      generalize (o.take k).foldl (deepI N) (List.replicate m 0) = S at hSl hSb hsucc ⊢
      generalize hog : o.getD k default = i at hi hsucc
      have hiN : i < N.length := by omega
      have hni := hNt _ (getD_mem hiN)
      simp (implicitDefEqProofs := false) (dsimp := false) only [hko, hog, nD, hiN, each_call, ↓atK_H, ↓atH_map, ↓nthK_H, ↓nthH_zero, ↓aw_seq, ↓aw_block, ↓aw_skip, ↓aw_rng, ↓aw_reg, ↓Qseq_n, ↓ops_nil, ↓ops_cons, ↓eval_tmp, ↓eval_func, ↓put_some, ↓put_none, ↓iK_i, ↓ldK_q, ↓ldK_p, ↓iaK_l, ↓op_move, ↓op_load, ↓op_ia, ↓op_call, ↓op_alloc, ↓op_store, isD_d, ↓fnK_f, ↓call_H, ↓callK_H, ↓allT_nil, ↓allT_cons, ↓td_d, ↓addBox_mk, ↓setBox_mk, ↓st_bx, ↓cells_c, ↓vcells_c, ↓one_i, ↓vone_d, constV_i, ↓st_p, ↓hd_cons, ↓ty3, ↓zb3, ↓sl24, ↓sl99, ↓ty102, List.getD_cons_zero, List.getD_cons_succ, List.set_cons_zero, List.set_cons_succ, List.cons_append, List.nil_append, List.append_nil, List.length_cons, List.length_nil, List.all_cons, List.all_nil, Bool.true_and, Bool.and_self, Bool.true_or, Nat.reduceAdd, Nat.reduceSub, Nat.reduceMul, Nat.zero_add, Int.toNat_natCast, evK_go, reduceIte, Nat.reduceEqDiff, Nat.reduceLT, and_self, true_and, Int.zero_add, Int.natCast_nonneg]
      (repeat refine OrH.l ?_)
      refine rangeW (slots 54 [(8, .d (.l (N.map U))), (9, .p 0 0), (11, .p 1 0), (27, .d (.l (o.map nD))), (28, .d (I .i64 (m : Int))), (29, .d (I .i64 (k : Int))), (37, .d (.f (.func 111) [.q [U (N.getD i default)]]))])
        (fun _ => [.o 0 0 m, .d (I .i64 (i : Int))]) (fun P : List Nat => [some ⟨1, (P.foldl (deepJ i) S).map nD⟩]) (fun ys P => ys = P.map Int.ofNat) []
        (by simp [slots]) (each_iter _ hni) ?_ rfl ?_ ?_ ?_
      · simp (implicitDefEqProofs := false) (dsimp := false) only [slots, ↓eval_tmp, List.getD_cons_zero, List.getD_cons_succ, List.set_cons_zero, List.set_cons_succ, Nat.reduceAdd, Nat.reduceSub, Nat.reduceMul, List.replicate, evK_go, reduceIte, Nat.reduceEqDiff, Nat.reduceLT, List.foldl_cons, List.foldl_nil]
      · refine Wkn.of [0, 1] [some 0] ?_
        simp (implicitDefEqProofs := false) (dsimp := false) only [List.foldl_nil, ↓vcells_c, ↓vcells_o, List.getD_cons_zero, List.getD_cons_succ, List.set_cons_zero, List.set_cons_succ, List.length_cons, List.length_nil, Bool.and_self, Nat.reduceAdd, Nat.reduceSub, Nat.reduceMul, Nat.zero_add, List.replicate, evK_go, reduceIte, Nat.reduceEqDiff, Nat.reduceLT, and_self, Int.zero_add, List.foldl_cons, List.foldl_nil, slots, wkL_nil, wkL_cons, wkB_nil, wkB_cons, wkR_nil, wkR_some, wkV_j, wkV_d, wkV_o, wkV_p, frz_d, oK_zs, pK_z, pK_s, reduceCtorEq]
      · rintro ys y P hpx rfl
        obtain ⟨P', c, hP, rfl, hcc⟩ := prefix_map hpx
        obtain rfl : P = P' := ofNat_inj hP
        have hcm : c < m := hNm i c (hcc.subset (by simp : c ∈ P ++ [c]))
        have hPl : P.length + 1 ≤ 64 := by
          have h3 := hcc.length_le
          have h4 := pts_len (N.getD i default)
          simp (implicitDefEqProofs := false) (dsimp := false) only [List.length_append, List.length_cons, List.length_nil] at h3
          omega
        have hTl := deepJs_len i P S
        have hTb := deepJs_le (i := i) P hSb
        have hfold : (P ++ [c]).foldl (deepJ i) S = (P.foldl (deepJ i) S).set c (max ((P.foldl (deepJ i) S).getD c default) ((P.foldl (deepJ i) S).getD i default + 1)) := by rw [List.foldl_append]; rfl
        generalize P.foldl (deepJ i) S = T at hTl hTb hfold ⊢
        have hcT : c < T.length := by omega
        have hiT : i < T.length := by omega
        have hbi := hTb i
        have hmax : (if ((T.getD i default : Nat) : Int) + 1 > ((T.getD c default : Nat) : Int) then ((T.getD i default : Nat) : Int) + 1 else ((T.getD c default : Nat) : Int)) = ((max (T.getD c default) (T.getD i default + 1) : Nat) : Int) := by split <;> omega
        have hTm : T.length = m := by omega
        simp (implicitDefEqProofs := false) (dsimp := false) only [slots, hcm, hi, hTm, nD, hmax, ↓optK_some, ↓rwK_mk_, ↓atK_H, ↓atH_map, ↓nthK_H, ↓nthH_zero, ↓aw_block, ↓aw_reg, ↓aw_draw, ↓Qblk_n, ↓ops_nil, ↓ops_cons, ↓eval_tmp, ↓eval_int, ↓put_some, ↓put_none, ↓iK_i, ↓dK_d, ↓ev_move, ↓ev_load, ↓ev_bin, ↓ev_ia, ↓ev_max, ↓binE_i, ↓bi_add, ↓in_i64, ↓ldK_p, ↓ldK_e, ↓iaK_o, ↓op_assign, ↓op_store, ↓draw_H, ↓h_cons, ↓ldH_t, ↓ldH_n, ↓q_bi, ↓q_move, ↓q_load, ↓q_bin, ↓q_ia, ↓il_move, ↓il_load, ↓il_bin, ↓il_ia, ↓il_max, ↓il_store, ↓setRow_mk, ↓row_sz, ↓row_xs, ↓cells_c, ↓vcells_c, ↓vcells_o, ↓one_i, ↓st_e, ↓Qn_n, ↓Qrd_n, ↓back_mk, ↓ty3, ↓ty24, ↓sl24, List.getD_cons_zero, List.getD_cons_succ, List.set_cons_zero, List.set_cons_succ, List.length_cons, List.length_nil, List.all_cons, List.all_nil, Bool.true_and, Bool.and_self, Nat.reduceAdd, Nat.reduceSub, Nat.reduceMul, Nat.zero_add, Int.toNat_natCast, List.replicate, evK_go, reduceIte, Nat.reduceEqDiff, Nat.reduceLT, and_self, true_and, Int.zero_add, List.foldl_cons, List.foldl_nil, Int.ofNat_lt, Int.natCast_nonneg]
        refine OrH.l ⟨DrawH.of follows_mixed (by kernel_rfl), by omega, ?_⟩
        refine ⟨P ++ [c], by simp, ?_⟩
        refine Wkn.of [0, 1] [some 0] ?_
        simp (implicitDefEqProofs := false) (dsimp := false) only [hfold, List.map_set, nD, ↓vcells_c, ↓vcells_o, List.getD_cons_zero, List.getD_cons_succ, List.length_cons, List.length_nil, Bool.and_self, Nat.reduceAdd, Nat.reduceSub, Nat.reduceMul, Nat.zero_add, evK_go, reduceIte, Nat.reduceEqDiff, Nat.reduceLT, and_self, Int.zero_add, slots, wkL_nil, wkL_cons, wkB_nil, wkB_cons, wkR_nil, wkR_some, wkV_j, wkV_d, wkV_o, wkV_p, frz_d, oK_zs, pK_z, pK_s, reduceCtorEq]
      · rintro P hP
        obtain rfl : pts (N.getD i default) = P := ofNat_inj hP
        simp (implicitDefEqProofs := false) (dsimp := false) only [slots, ↓aw_reg, ↓Qseq_n, ↓Qblk_n, ↓ops_nil, ↓ops_cons, ↓eval_tmp, ↓eval_int, ↓put_some, ↓binE_i, ↓bi_add, ↓in_i64, ↓op_move, ↓op_bin, List.getD_cons_zero, List.getD_cons_succ, List.set_cons_zero, List.set_cons_succ, Nat.reduceAdd, Nat.reduceSub, Nat.reduceMul, List.replicate, evK_go, reduceIte, Nat.reduceEqDiff, Nat.reduceLT, List.foldl_cons, List.foldl_nil]
        refine ⟨by omega, k + 1, by omega, by omega, ?_⟩
        refine Wkn.of [0] [some 0] ?_
        simp (implicitDefEqProofs := false) (dsimp := false) only [hsucc, deepI, ↓vcells_o, List.getD_cons_zero, List.length_cons, List.length_nil, Bool.and_self, Nat.reduceAdd, Nat.reduceSub, Nat.reduceMul, Nat.zero_add, evK_go, reduceIte, Nat.reduceEqDiff, Nat.reduceLT, and_self, Int.zero_add, Int.cast_ofNat_Int, Int.natCast_add, slots, wkL_nil, wkL_cons, wkB_nil, wkB_cons, wkR_nil, wkR_some, wkV_j, wkV_d, wkV_o, wkV_p, frz_d, oK_zs, pK_z, reduceCtorEq]
    · obtain rfl : k = m := by omega
      rw [List.take_of_length_le (by omega)] at hSl ⊢
      simp (implicitDefEqProofs := false) (dsimp := false) only [eval_nilI, ↓optK_some, ↓rwK_mk_, ↓nthK_H, ↓nthH_zero, ↓aw_seq, ↓aw_exit, ↓aw_ret, ↓aw_reg, ↓Qseq_n, ↓Qseq_x, ↓Qblk_x, ↓Qret_r, ↓ops_nil, ↓ops_cons, ↓eval_tmp, ↓put_some, ↓ldK_p, ↓op_assign, ↓op_load, ↓td_d, ↓td_o, ↓ret_2, ↓row_xs, ↓vcells_o, ↓ty24, List.getD_cons_zero, List.getD_cons_succ, List.set_cons_zero, List.set_cons_succ, Nat.reduceAdd, Nat.reduceSub, Nat.reduceMul, evK_go, reduceIte, decide_false, Nat.reduceEqDiff, Nat.reduceLT, Nat.lt_irrefl, List.drop_zero]
      have e1 : List.take k (List.map nD (o.foldl (deepI N) (List.replicate k 0))) = List.map nD (o.foldl (deepI N) (List.replicate k 0)) := List.take_of_length_le (by simp [hSl])
      rw [e1, erD_0]
theorem deepw_call (n : Int) (l : List (Int × Int)) (pure : Bool) (σ : St) (dst : Option Tmp) (K : St → Prop) : CallH Tryd.prog 26 [I .i64 n, .l (l.map lnD)] pure σ dst (.mk : Hid K) = OrH ((l.length < 2 ^ 62) ∧ (pure || D.flat (.t [.l ((deepR n l).map nD), erD (topoE n l)])) = true ∧ evK (σ.put dst (.d (.t [.l ((deepR n l).map nD), erD (topoE n l)]))) (.mk : Hid K)) (.mk : Hid (CallH Tryd.prog 26 [I .i64 n, .l (l.map lnD)] pure σ dst (.mk : Hid K))) := CallH.eq (deepw_spec n l) pure σ dst K
theorem deepw_callQ (n : Int) (l : List (Int × Int)) (pure : Bool) (C : V → Prop) : CallQ Tryd.prog 26 [I .i64 n, .l (l.map lnD)] pure (.mk : Hid C) = OrH ((l.length < 2 ^ 62) ∧ (pure || D.flat (.t [.l ((deepR n l).map nD), erD (topoE n l)])) = true ∧ evK (V.d (.t [.l ((deepR n l).map nD), erD (topoE n l)])) (.mk : Hid C)) (.mk : Hid (CallQ Tryd.prog 26 [I .i64 n, .l (l.map lnD)] pure (.mk : Hid C))) := CallQ.eq (deepw_spec n l) pure C
/-- The greatest number. -/
def maxN (l : List Nat) : Nat := (l.drop 1).foldl max (l.getD 0 default)
def maxK (l : List Nat) (k : Nat) : Nat := ((l.take k).drop 1).foldl max (l.getD 0 default)
theorem maxK_succ {l : List Nat} {k : Nat} (h : k < l.length) (h0 : 0 < k) : maxK l (k + 1) = max (maxK l k) (l.getD k default) := by
  unfold maxK
  rw [take_succ_getD h, List.drop_append_of_le_length (by simp; omega), List.foldl_append]; rfl
theorem maxN_spec {l : List Nat} (h : 0 < l.length) : maxN l ∈ l ∧ ∀ x ∈ l, x ≤ maxN l := by
  have key : ∀ (L : List Nat) (b : Nat), (L.foldl max b = b ∨ L.foldl max b ∈ L) ∧ b ≤ L.foldl max b ∧ ∀ x ∈ L, x ≤ L.foldl max b := by
    intro L
    induction L with
    | nil => intro b; simp
    | cons y L ih =>
      intro b
      obtain ⟨h1, h2, h3⟩ := ih (max b y)
      simp (implicitDefEqProofs := false) (dsimp := false) only [List.foldl_cons]
      refine ⟨?_, by omega, fun x hx => ?_⟩
      · rcases h1 with h1 | h1
        · rw [h1]
          rcases Nat.le_total b y with h4 | h4
          · right; rw [Nat.max_eq_right h4]; simp
          · left; exact Nat.max_eq_left h4
        · exact .inr (by simp [h1])
      · rcases List.mem_cons.1 hx with rfl | hx
        · omega
        · exact h3 x hx
  cases l with
  | nil => simp at h
  | cons y l =>
    obtain ⟨h1, h2, h3⟩ := key l y
    show l.foldl max y ∈ y :: l ∧ ∀ x ∈ y :: l, x ≤ l.foldl max y
    refine ⟨?_, fun x hx => ?_⟩
    · rcases h1 with h1 | h1
      · rw [h1]; simp
      · simp [h1]
    · rcases List.mem_cons.1 hx with rfl | hx
      · exact h2
      · exact h3 x hx
theorem slmax_spec (l : List Nat) (hpre : 0 < l.length ∧ l.length < 2 ^ 62) : FnD Tryd.prog 108 [.l (l.map nD)] (I .i64 (maxN l : Nat)) := by
  obtain ⟨h0, h62⟩ := hpre
  refine FnD.go Tryd.func108 rfl rfl Tryd.results108 Tryd.ntmps108 ?_
  simp (implicitDefEqProofs := false) (dsimp := false) only [↓aw_cond, ↓aw_seq, ↓aw_reg, ↓Qseq_n, ↓ops_nil, ↓ops_cons, ↓eval_tmp, ↓eval_int, ↓put_some, ↓bK_b, ↓lenK_l, ↓binE_i, ↓bi_lss, ↓op_move, ↓op_assign, ↓op_bin, ↓op_len, ↓sl24, List.getD_cons_zero, List.getD_cons_succ, List.set_cons_zero, List.set_cons_succ, List.cons_append, List.nil_append, List.map_cons, List.map_nil, List.length_cons, List.length_nil, List.length_map, Nat.reduceAdd, Nat.reduceSub, Nat.reduceMul, Nat.zero_add, List.replicate, evK_go, reduceIte, Nat.reduceEqDiff, Nat.reduceLT, Int.zero_add]
  refine cdK_dec (fun h1 => by omega) (fun h1 => ?_)
  simp (implicitDefEqProofs := false) (dsimp := false) only [h0, nD, ↓atK_H, ↓atH_map, ↓aw_seq, ↓aw_block, ↓aw_skip, ↓aw_loop, ↓aw_reg, ↓Qseq_n, ↓ops_nil, ↓ops_cons, ↓eval_tmp, ↓eval_int, ↓put_some, ↓iK_i, ↓ldK_q, ↓iaK_l, ↓op_move, ↓op_assign, ↓op_load, ↓op_ia, ↓cells_c, ↓hd_cons, ↓ty3, ↓sl24, List.getD_cons_zero, List.getD_cons_succ, List.set_cons_zero, List.set_cons_succ, List.length_cons, List.length_nil, Bool.true_and, Nat.reduceAdd, Nat.reduceSub, Nat.reduceMul, Nat.zero_add, Int.toNat_zero, evK_go, reduceIte, Nat.reduceEqDiff, Nat.reduceLT, true_and, Int.zero_add]
  refine ⟨by decide, ?_⟩
  refine loopW (fun k : Nat => { tm := slots 25 [(0, .d (.l (l.map nD))), (3, .d (I .i64 (maxK l k : Nat))), (4, .d (I .i64 k))], bx := [], rw := [] })
    (fun k => k ≤ l.length ∧ 0 < k) (fun k => l.length - k) 1 (by omega) ?_ ?_
  · have e : maxK l 1 = l.getD 0 default := by
      unfold maxK
      cases l <;> rfl
    refine Wkn.of [] [] ?_; simp (implicitDefEqProofs := false) (dsimp := false) only [e, List.set_cons_zero, List.set_cons_succ, Bool.and_self, Nat.reduceAdd, Nat.reduceSub, Nat.reduceMul, List.replicate, evK_go, reduceIte, Nat.reduceEqDiff, Nat.reduceLT, and_self, List.foldl_cons, List.foldl_nil, Int.cast_ofNat_Int, slots, wkL_nil, wkL_cons, wkB_nil, wkR_nil, wkV_j, wkV_d, frz_d, reduceCtorEq]
  · rintro k ⟨hk, hk0⟩
    simp (implicitDefEqProofs := false) (dsimp := false) only [slots, ↓aw_cond, ↓aw_seq, ↓aw_reg, ↓Qseq_n, ↓ops_nil, ↓ops_cons, ↓eval_tmp, ↓put_some, ↓bK_b, ↓lenK_l, ↓binE_i, ↓bi_lss, ↓op_move, ↓op_bin, ↓op_len, ↓sl24, List.getD_cons_zero, List.getD_cons_succ, List.set_cons_zero, List.set_cons_succ, List.length_map, Nat.reduceAdd, Nat.reduceSub, Nat.reduceMul, List.replicate, evK_go, reduceIte, Nat.reduceEqDiff, Nat.reduceLT, List.foldl_cons, List.foldl_nil, Int.ofNat_lt]
    refine cdK_dec (fun h => ?_) (fun h => ?_)
    · have hs := maxK_succ h hk0
      have hmax : (if maxK l k < l.getD k default then ((l.getD k default : Nat) : Int) else ((maxK l k : Nat) : Int)) = ((max (maxK l k) (l.getD k default) : Nat) : Int) := by split <;> omega
      simp (implicitDefEqProofs := false) (dsimp := false) only [h, nD, hmax, ↓atK_H, ↓atH_map, ↓aw_seq, ↓aw_block, ↓aw_skip, ↓aw_reg, ↓Qseq_n, ↓Qblk_n, ↓ops_nil, ↓ops_cons, ↓eval_tmp, ↓eval_int, ↓put_some, ↓iK_i, ↓binE_i, ↓bi_add, ↓in_i64, ↓ldK_q, ↓iaK_l, ↓op_move, ↓op_assign, ↓op_load, ↓op_bin, ↓op_ia, ↓op_max, ↓cells_c, ↓hd_cons, ↓ty3, ↓sl24, List.getD_cons_zero, List.getD_cons_succ, List.set_cons_zero, List.set_cons_succ, List.length_cons, List.length_nil, Bool.true_and, Nat.reduceAdd, Nat.reduceSub, Nat.reduceMul, Nat.zero_add, Int.toNat_natCast, evK_go, reduceIte, decide_true, Nat.reduceEqDiff, Nat.reduceLT, true_and, Int.zero_add, Int.ofNat_lt, Int.natCast_nonneg]
      refine ⟨by omega, k + 1, by omega, by omega, ?_⟩
      refine Wkn.of [] [] ?_; simp (implicitDefEqProofs := false) (dsimp := false) only [hs, List.set_cons_zero, List.set_cons_succ, Bool.and_self, Nat.reduceAdd, Nat.reduceSub, Nat.reduceMul, List.replicate, evK_go, reduceIte, Nat.reduceEqDiff, Nat.reduceLT, and_self, List.foldl_cons, List.foldl_nil, Int.cast_ofNat_Int, Int.natCast_add, slots, wkL_nil, wkL_cons, wkB_nil, wkR_nil, wkV_j, wkV_d, frz_d, reduceCtorEq]
    · obtain rfl : k = l.length := by omega
      simp (implicitDefEqProofs := false) (dsimp := false) only [↓aw_seq, ↓aw_exit, ↓aw_ret, ↓aw_reg, ↓Qseq_n, ↓Qseq_x, ↓Qblk_x, ↓Qret_r, ↓ops_nil, ↓ops_cons, ↓eval_tmp, ↓put_some, ↓op_move, ↓op_assign, ↓td_d, ↓ret_1, List.getD_cons_zero, List.getD_cons_succ, List.set_cons_zero, List.set_cons_succ, Nat.reduceAdd, Nat.reduceSub, Nat.reduceMul, evK_go, reduceIte, decide_false, Nat.reduceEqDiff, Nat.reduceLT, Nat.lt_irrefl]
      unfold maxK maxN
      rw [List.take_length]
theorem slmax_call (l : List Nat) (pure : Bool) (σ : St) (dst : Option Tmp) (K : St → Prop) : CallH Tryd.prog 108 [.l (l.map nD)] pure σ dst (.mk : Hid K) = OrH ((0 < l.length ∧ l.length < 2 ^ 62) ∧ (pure || D.flat (I .i64 (maxN l : Nat))) = true ∧ evK (σ.put dst (.d (I .i64 (maxN l : Nat)))) (.mk : Hid K)) (.mk : Hid (CallH Tryd.prog 108 [.l (l.map nD)] pure σ dst (.mk : Hid K))) := CallH.eq (slmax_spec l) pure σ dst K
theorem slmax_callQ (l : List Nat) (pure : Bool) (C : V → Prop) : CallQ Tryd.prog 108 [.l (l.map nD)] pure (.mk : Hid C) = OrH ((0 < l.length ∧ l.length < 2 ^ 62) ∧ (pure || D.flat (I .i64 (maxN l : Nat))) = true ∧ evK (V.d (I .i64 (maxN l : Nat))) (.mk : Hid C)) (.mk : Hid (CallQ Tryd.prog 108 [.l (l.map nD)] pure (.mk : Hid C))) := CallQ.eq (slmax_spec l) pure C
end Go.Proofs

namespace Go.Proofs
open Go.RowKit Go.Extern.Stop Go.Stop Go.Extern

/-- errors.As(nil, target). -/
theorem as_nil (t : Value) (w : World) :
    Calls Tryd.prog 113 #[.nilIface, t] w fun e w' => e = .returned (.bool false) ∧ w' = w := by
  go_enter Tryd.func113, Tryd.ntmps113
  go_wp2
  go_ret
  exact ⟨rfl, rfl⟩

/-! ### CLOSED FACTS ON THE MODEL's ENTRIES FOR internal/reflectlite, at this program's types: 25: *p.E · 27: **p.E · 23: error · 45: reflectlite's rtype · 1: how many package-level variables the dump has -/
theorem AsE.valueOf27 (t : Addr) (w : World) : (ReflectliteValue.unpack (.iface 126 (.pointer (some t)))).run Tryd.prog w
    = .ok (.agg #[.pointer (some ⟨1, 126, none⟩), .pointer (some ⟨w.heap.size, 0, none⟩), .int .u64 150]) (w.alloc (.cells #[.pointer (some t)] 126)) := by kernel_rfl
theorem AsE.type27 (a : Addr) (w : World) : (ReflectliteValue.methodAny (ReflectliteValue.valueError "reflectlite.Value.Type" 0) (fun t _ _ _ => ReflectliteType.toType t) #[.agg #[.pointer (some ⟨1, 126, none⟩), .pointer (some a), .int .u64 150]]).run Tryd.prog w
    = .ok (.iface 142 (.agg #[.pointer (some ⟨1, 126, none⟩)])) w := by kernel_rfl
theorem AsE.methodKind (h : Value) (w : World) : (Go.method 284 142 (.agg #[h]) "Kind").run Tryd.prog w = .ok (138, h) w := by kernel_rfl
theorem AsE.kind27 (w : World) : ((ReflectliteType.abiMethod fun t => (fun a : Nat => Value.int IntKind.u8 (a : Int)) <$> Rtype.kind t) #[.pointer (some ⟨1, 126, none⟩)]).run Tryd.prog w = .ok (.int .u8 22) w := by kernel_rfl
theorem AsE.kind25 (w : World) : ((ReflectliteType.abiMethod fun t => (fun a : Nat => Value.int IntKind.u8 (a : Int)) <$> Rtype.kind t) #[.pointer (some ⟨1, 108, none⟩)]).run Tryd.prog w = .ok (.int .u8 2) w := by kernel_rfl

/-! ### THE ENTRIES THAT READ OR WRITE MEMORY: laws with a premise on the cell (after Derived/Lib/ReflectliteSlice.lean's manner: each unfolding a lemma of its own, by rfl) -/
theorem rlm (z : Sem Value) (f : TypeId → Addr → Nat → Nat → Sem Value) (v : Value) :
    ReflectliteValue.method z f #[v] = (do match ← ReflectliteValue.parts v with | none => z | some (t, a, fl) => f t a fl (fl % 32)) := rfl
theorem AsE.parts27 (a : Addr) (w : World) : (ReflectliteValue.parts (.agg #[.pointer (some ⟨1, 126, none⟩), .pointer (some a), .int .u64 150])).run Tryd.prog w = .ok (some (126, a, 150)) w := by kernel_rfl
/-- (Value).IsNil at the Value of a **p.E that is not nil. -/
theorem AsE.isNil27 (a p : Addr) (W : World) (ha : W.cell? a = some (.pointer (some p))) :
    (ReflectliteValue.method (ReflectliteValue.valueError "reflectlite.Value.IsNil" 0) ReflectliteValue.isNil #[.agg #[.pointer (some ⟨1, 126, none⟩), .pointer (some a), .int .u64 150]]).run Tryd.prog W = .ok (.bool false) W := by
  rw [rlm]
  simp only [Sem.run_bind, AsE.parts27, Result.andThen]
  simp [ReflectliteValue.isNil, loadVar, isAgg, underlying, Tryd.underlying126, ha, Result.andThen]

theorem AsE.methodElem (h : Value) (w : World) : (Go.method 284 142 (.agg #[h]) "Elem").run Tryd.prog w = .ok (148, .agg #[h]) w := by kernel_rfl
theorem AsE.methodImplements (h : Value) (w : World) : (Go.method 284 142 (.agg #[h]) "Implements").run Tryd.prog w = .ok (149, .agg #[h]) w := by kernel_rfl
theorem AsE.methodAssignableTo (h : Value) (w : World) : (Go.method 284 142 (.agg #[h]) "AssignableTo").run Tryd.prog w = .ok (146, .agg #[h]) w := by kernel_rfl
theorem AsE.elem27 (w : World) : (ReflectliteType.method ReflectliteType.elem #[.agg #[.pointer (some ⟨1, 126, none⟩)]]).run Tryd.prog w = .ok (.iface 142 (.agg #[.pointer (some ⟨1, 108, none⟩)])) w := by kernel_rfl
theorem AsE.implements25 (w : World) : (ReflectliteType.relation "Implements" ReflectliteType.implements_ #[.agg #[.pointer (some ⟨1, 108, none⟩)], .iface 142 (.agg #[.pointer (some ⟨1, 29, none⟩)])]).run Tryd.prog w = .ok (.bool true) w := by kernel_rfl
theorem AsE.typeOf25 (v : Value) (w : World) : (ReflectliteType.typeOf #[.iface 108 v]).run Tryd.prog w = .ok (.iface 142 (.agg #[.pointer (some ⟨1, 108, none⟩)])) w := by kernel_rfl
theorem AsE.assignable25 (w : World) : (ReflectliteType.relation "AssignableTo" ReflectliteType.assignableTo #[.agg #[.pointer (some ⟨1, 108, none⟩)], .iface 142 (.agg #[.pointer (some ⟨1, 108, none⟩)])]).run Tryd.prog w = .ok (.bool true) w := by kernel_rfl
theorem AsE.valueOf25 (e : Int) (w : World) : (ReflectliteValue.unpack (.iface 108 (.int .i64 e))).run Tryd.prog w
    = .ok (.agg #[.pointer (some ⟨1, 108, none⟩), .pointer (some ⟨w.heap.size, 0, none⟩), .int .u64 130]) (w.alloc (.cells #[.int .i64 e] 108)) := by kernel_rfl

theorem AsE.elemOf27 (w : World) : (Rtype.elem? 126).run Tryd.prog w = .ok (some 108) w := by kernel_rfl
theorem AsE.mk25 (p : Addr) (w : World) : (ReflectliteValue.mk 108 p ReflectliteValue.flagAddr).run Tryd.prog w = .ok (.agg #[.pointer (some ⟨1, 108, none⟩), .pointer (some p), .int .u64 386]) w := by kernel_rfl
/-- (Value).Elem at the Value of a **p.E that is not nil: the Value of the *p.E variable that it points to, addressable. -/
theorem AsE.elemV27 (a p : Addr) (W : World) (ha : W.cell? a = some (.pointer (some p))) :
    (ReflectliteValue.method (ReflectliteValue.valueError "reflectlite.Value.Elem" 0) ReflectliteValue.elem #[.agg #[.pointer (some ⟨1, 126, none⟩), .pointer (some a), .int .u64 150]]).run Tryd.prog W
      = .ok (.agg #[.pointer (some ⟨1, 108, none⟩), .pointer (some p), .int .u64 386]) W := by
  rw [rlm]
  simp only [Sem.run_bind, AsE.parts27, Result.andThen]
  simp [ReflectliteValue.elem, loadVar, isAgg, underlying, Tryd.underlying126, ha, Result.andThen, AsE.elemOf27, AsE.mk25]
theorem rls (v x : Value) : ReflectliteValue.set #[v, x] = (do
    let (some (dst, a, fl), some (src, b, _)) := (← ReflectliteValue.parts v, ← ReflectliteValue.parts x)
      | unsupported (.noEntry "extern/(internal/reflectlite.Value).Set.zeroValue")
    if fl / ReflectliteValue.flagAddr % 2 == 0 then unsupported (.noEntry "extern/(internal/reflectlite.Value).Set.unaddressable")
    let val ← loadVar src b
    if ← Rtype.directlyAssignable dst src then storeVar dst a val
    else if ← Rtype.implements dst src then
      if (← Rtype.kind src) == 20 then
        match val with
        | .nilIface => unsupported (.noEntry "extern/reflectlite: a nil value of one interface type handed on as a value of another")
        | _ => storeVar dst a val
      else storeVar dst a (.iface src val)
    else panicString ("reflectlite.Set: value of type " ++ (← Rtype.spelt src) ++ " is not assignable to type " ++ (← Rtype.spelt dst))
    pure (.tuple #[])) := rfl
theorem AsE.parts25a (a : Addr) (w : World) : (ReflectliteValue.parts (.agg #[.pointer (some ⟨1, 108, none⟩), .pointer (some a), .int .u64 386])).run Tryd.prog w = .ok (some (108, a, 386)) w := by kernel_rfl
theorem AsE.parts25 (a : Addr) (w : World) : (ReflectliteValue.parts (.agg #[.pointer (some ⟨1, 108, none⟩), .pointer (some a), .int .u64 130])).run Tryd.prog w = .ok (some (108, a, 130)) w := by kernel_rfl
theorem AsE.direct25 (w : World) : (Rtype.directlyAssignable 108 108).run Tryd.prog w = .ok true w := by kernel_rfl
theorem AsE.size25 (w : World) : (sizeOf 108).run Tryd.prog w = .ok 1 w := by kernel_rfl
/-- (Value).Set: the *p.E variable at 'ta' gets what the Value's own variable 'b' holds. -/
theorem AsE.set25 (ta b : Addr) (e : Int) (old : Value) (W : World) (hb : W.cell? b = some (.int .i64 e)) (ht : W.cell? ta = some old) (hf : W.frozen? ta = false) :
    (ReflectliteValue.set #[.agg #[.pointer (some ⟨1, 108, none⟩), .pointer (some ta), .int .u64 386], .agg #[.pointer (some ⟨1, 108, none⟩), .pointer (some b), .int .u64 130]]).run Tryd.prog W
      = .ok (.tuple #[]) (W.setCell ta (.int .i64 e)) := by
  rw [rls]
  simp only [Sem.run_bind, AsE.parts25a, AsE.parts25, Result.andThen]
  simp [ReflectliteValue.flagAddr, loadVar, isAgg, underlying, Tryd.underlying108, hb, Result.andThen, AsE.direct25, storeVar, Value.cells, storeCells, Addr.add]
  rw [run_store Tryd.prog W ta _ _ (by rfl)]
  simp [ht, hf]

set_option maxHeartbeats 4000000 in
theorem as_hit (e : Int) (t : Addr) (old : Value) (w : World) (hg : w.cell? ⟨0, 0, none⟩ = some (.iface 142 (.agg #[.pointer (some ⟨1, 29, none⟩)]))) (ht0 : w.cell? t = some old) (hf0 : w.frozen? t = false) :
    Calls Tryd.prog 113 #[.iface 108 (.int .i64 e), .iface 126 (.pointer (some t))] w fun ev w' => ev = .returned (.bool true) ∧ w' = ((((w.alloc (.cells #[.pointer (some t)] 126)).alloc (.cells #[.pointer (some ⟨1, 126, none⟩), .pointer (some ⟨w.heap.size, 0, none⟩), .int .u64 150] 132)).alloc (.cells #[.pointer (some ⟨1, 126, none⟩), .pointer (some ⟨w.heap.size, 0, none⟩), .int .u64 150] 132)).alloc (.cells #[.int .i64 e] 108)).setCell t (.int .i64 e) := by
  have h6 := @run_callFunc_extern Tryd.prog 117 _ (fun args => ReflectliteValue.unpack (args.getD 0 (.tuple #[]))) Tryd.func117 (by kernel_rfl) (by kernel_rfl) (by kernel_rfl) (by kernel_rfl)
  have h7 := @run_callFunc_extern Tryd.prog 118 _ (ReflectliteValue.methodAny (ReflectliteValue.valueError "reflectlite.Value.Type" 0) (fun t _ _ _ => ReflectliteType.toType t)) Tryd.func118 (by kernel_rfl) (by kernel_rfl) (by kernel_rfl) (by kernel_rfl)
  have h8 := @run_callFunc_extern Tryd.prog 119 _ (ReflectliteValue.method (ReflectliteValue.valueError "reflectlite.Value.IsNil" 0) ReflectliteValue.isNil) Tryd.func119 (by kernel_rfl) (by kernel_rfl) (by kernel_rfl) (by kernel_rfl)
  have h27 := @run_callFunc_extern Tryd.prog 138 _ (ReflectliteType.abiMethod fun t => do pure (.int .u8 (← Rtype.kind t))) Tryd.func138 (by kernel_rfl) (by kernel_rfl) (by kernel_rfl) (by kernel_rfl)
  have h37 := @run_callFunc_extern Tryd.prog 148 _ (ReflectliteType.method ReflectliteType.elem) Tryd.func148 (by kernel_rfl) (by kernel_rfl) (by kernel_rfl) (by kernel_rfl)
  have h38 := @run_callFunc_extern Tryd.prog 149 _ (ReflectliteType.relation "Implements" ReflectliteType.implements_) Tryd.func149 (by kernel_rfl) (by kernel_rfl) (by kernel_rfl) (by kernel_rfl)
  have h10 := @run_callFunc_extern Tryd.prog 121 _ ReflectliteType.typeOf Tryd.func121 (by kernel_rfl) (by kernel_rfl) (by kernel_rfl) (by kernel_rfl)
  have h35 := @run_callFunc_extern Tryd.prog 146 _ (ReflectliteType.relation "AssignableTo" ReflectliteType.assignableTo) Tryd.func146 (by kernel_rfl) (by kernel_rfl) (by kernel_rfl) (by kernel_rfl)
  have h11 := @run_callFunc_extern Tryd.prog 122 _ (ReflectliteValue.method (ReflectliteValue.valueError "reflectlite.Value.Elem" 0) ReflectliteValue.elem) Tryd.func122 (by kernel_rfl) (by kernel_rfl) (by kernel_rfl) (by kernel_rfl)
  have h12 := @run_callFunc_extern Tryd.prog 123 _ ReflectliteValue.set Tryd.func123 (by kernel_rfl) (by kernel_rfl) (by kernel_rfl) (by kernel_rfl)
  have tO := AsE.typeOf25
  have mA := AsE.methodAssignableTo
  have a25 := AsE.assignable25
  have v25 := AsE.valueOf25
  have f6 := AsE.valueOf27
  have f7 := AsE.type27
  have mK := AsE.methodKind
  have mE := AsE.methodElem
  have mI := AsE.methodImplements
  have k27 := AsE.kind27
  have k25 := AsE.kind25
  have e27 := AsE.elem27
  have i25 := AsE.implements25
  have n8 := AsE.isNil27 ⟨w.heap.size, 0, none⟩ t ((w.alloc (.cells #[.pointer (some t)] 126)).alloc (.cells #[.pointer (some ⟨1, 126, none⟩), .pointer (some ⟨w.heap.size, 0, none⟩), .int .u64 150] 132)) (by simp)
  have hlt : 0 < w.heap.size := by
    rcases Nat.eq_zero_or_pos w.heap.size with h0 | h
    · simp [World.cell?, h0] at hg
    · exact h
  have hg2 : ((w.alloc (.cells #[.pointer (some t)] 126)).alloc (.cells #[.pointer (some ⟨1, 126, none⟩), .pointer (some ⟨w.heap.size, 0, none⟩), .int .u64 150] 132)).cell? ⟨0, 0, none⟩ = some (.iface 142 (.agg #[.pointer (some ⟨1, 29, none⟩)])) := by
    rw [World.cell?_alloc_lt _ _ ⟨0, 0, none⟩ (by simp), World.cell?_alloc_lt _ _ ⟨0, 0, none⟩ hlt]; exact hg
  have htl : t.block < w.heap.size := by
    rcases Nat.lt_or_ge t.block w.heap.size with h | h
    · exact h
    · simp [World.cell?, Array.getElem?_eq_none h] at ht0
  have el := AsE.elemV27 ⟨w.heap.size, 0, none⟩ t (((w.alloc (.cells #[.pointer (some t)] 126)).alloc (.cells #[.pointer (some ⟨1, 126, none⟩), .pointer (some ⟨w.heap.size, 0, none⟩), .int .u64 150] 132)).alloc (.cells #[.pointer (some ⟨1, 126, none⟩), .pointer (some ⟨w.heap.size, 0, none⟩), .int .u64 150] 132)) (by rw [World.cell?_alloc_lt _ _ ⟨w.heap.size, 0, none⟩ (by simp; omega)]; simp)
  have st := AsE.set25 t ⟨w.heap.size + 1 + 1 + 1, 0, none⟩ e old ((((w.alloc (.cells #[.pointer (some t)] 126)).alloc (.cells #[.pointer (some ⟨1, 126, none⟩), .pointer (some ⟨w.heap.size, 0, none⟩), .int .u64 150] 132)).alloc (.cells #[.pointer (some ⟨1, 126, none⟩), .pointer (some ⟨w.heap.size, 0, none⟩), .int .u64 150] 132)).alloc (.cells #[.int .i64 e] 108))
    (by rw [World.cell?_alloc_at _ _ _ _ (by simp)]; rfl)
    (by rw [World.cell?_alloc_lt _ _ t (by simp; omega), World.cell?_alloc_lt _ _ t (by simp; omega), World.cell?_alloc_lt _ _ t (by simp; omega), World.cell?_alloc_lt _ _ t htl]; exact ht0)
    (by rw [World.frozen?_alloc_old _ _ t (by simp; omega), World.frozen?_alloc_old _ _ t (by simp; omega), World.frozen?_alloc_old _ _ t (by simp; omega), World.frozen?_alloc_old _ _ t (Nat.ne_of_lt htl)]; exact hf0)
  go_enter Tryd.func113, Tryd.ntmps113
  go_wp2
  refine wp_loop_rounds 1 ?_
  rw [rounds_succ]
  go_wp2
  go_ret
  exact ⟨rfl, rfl⟩
end Go.Proofs

namespace Go.Proofs
open Go.Aw Go.RowKit Go.Extern.Stop Go.Stop Go.Extern
theorem hnd_eq : hnd Tryd.prog = .iface 142 (.agg #[.pointer (some ⟨1, 29, none⟩)]) := by kernel_rfl
theorem glob_eq : Tryd.prog.globalNamed "errors.errorType" = some 0 := by kernel_rfl
theorem told_nil (w : World) : Calls Tryd.prog 86 #[.nilIface] w fun e w' => e = .returned (.int .i64 0) ∧ w' = w := by
  go_enter Tryd.func86, Tryd.ntmps86
  go_wp2
  go_ret
  exact ⟨rfl, rfl⟩
set_option maxHeartbeats 4000000 in
theorem told_some (n : Int) (w : World) (hg : w.cell? ⟨0, 0, none⟩ = some (.iface 142 (.agg #[.pointer (some ⟨1, 29, none⟩)]))) : Calls Tryd.prog 86 #[.iface 108 (.int .i64 n)] w fun e w' => e = .returned (.int .i64 n) ∧ Below w.heap.size w w' := by
  have hlt : 0 < w.heap.size := by
    rcases Nat.eq_zero_or_pos w.heap.size with h0 | h
    · simp [World.cell?, h0] at hg
    · exact h
  have hgA : (w.alloc (.cells #[.int .i64 0] 108)).cell? ⟨0, 0, none⟩ = some (.iface 142 (.agg #[.pointer (some ⟨1, 29, none⟩)])) := by
    rw [World.cell?_alloc_lt _ _ ⟨0, 0, none⟩ hlt]; exact hg
  have htA : (w.alloc (.cells #[.int .i64 0] 108)).cell? ⟨w.heap.size, 0, none⟩ = some (.int .i64 0) := by simp
  have hfA : (w.alloc (.cells #[.int .i64 0] 108)).frozen? ⟨w.heap.size, 0, none⟩ = false := by simp
  go_enter Tryd.func86, Tryd.ntmps86
  go_wp2_with (first | (go_at_call 113; refine (as_hit n _ (.int .i64 0) _ hgA htA hfA).mono ?_; rintro e w' ⟨rfl, rfl⟩))
  go_ret
  refine ⟨rfl, ?_⟩
  exact (((((Below.refl _ w).alloc (Nat.le_refl _) _).alloc (by simp) _).alloc (by simp; omega) _).alloc (by simp; omega) _).alloc (by simp; omega) _
theorem told_spec (e : Int) : FnD Tryd.prog 86 [erD e] (I .i64 e) := by
  refine ⟨fun args w => enters_of Tryd.func86 rfl rfl args w, fun w N vs hg hN ha => ?_⟩
  obtain ⟨v, rfl⟩ := List.length_eq_one_iff.1 ha.1
  have hv := ha.2 0 _ v rfl rfl
  have hc := hg 0 glob_eq
  rw [hnd_eq] at hc
  have key : Calls Tryd.prog 86 #[v] w fun ev w' => ev = .returned (.int .i64 e) ∧ Below w.heap.size w w' := by
    by_cases h : e = 0
    · subst h
      cases hv
      exact (told_nil w).mono fun ev w' ⟨h1, h2⟩ => ⟨h1, by rw [h2]; exact Below.refl _ _⟩
    · have hv : RelD w N (.c (.iface 108 (.int .i64 e))) v := by
        have e1 : erD e = .c (.iface 108 (.int .i64 e)) := if_neg h
        rwa [e1] at hv
      cases hv
      exact told_some e w hc
  exact (callsIn_wide.2 key).mono fun ev w' ⟨h1, h2⟩ => ⟨_, _, rfl, h1, h2, .c _⟩
end Go.Proofs

namespace Go.Proofs
open Go.Aw
set_option linter.unusedSimpArgs false
set_option maxRecDepth 10000
theorem told_call (e : Int) (pure : Bool) (σ : St) (dst : Option Tmp) (K : St → Prop) : CallH Tryd.prog 86 [erD e] pure σ dst (.mk : Hid K) = OrH ((pure || D.flat (I .i64 e)) = true ∧ evK (σ.put dst (.d (I .i64 e))) (.mk : Hid K)) (.mk : Hid (CallH Tryd.prog 86 [erD e] pure σ dst (.mk : Hid K))) := CallH.eq0 (told_spec e) pure σ dst K
theorem told_callQ (e : Int) (pure : Bool) (C : V → Prop) : CallQ Tryd.prog 86 [erD e] pure (.mk : Hid C) = OrH ((pure || D.flat (I .i64 e)) = true ∧ evK (V.d (I .i64 e)) (.mk : Hid C)) (.mk : Hid (CallQ Tryd.prog 86 [erD e] pure (.mk : Hid C))) := CallQ.eq0 (told_spec e) pure C
theorem eerr_spec (e n : Int) : FnD Tryd.prog 24 [erD e, I .i64 n] (Bo (decide (e = n))) := by
  refine FnD.go Tryd.func24 rfl rfl Tryd.results24 Tryd.ntmps24 ?_
  simp (implicitDefEqProofs := false) (dsimp := false) only [↓aw_seq, ↓aw_reg, ↓Qseq_n, ↓ops_nil, ↓ops_cons, ↓eval_tmp, ↓eval_bool, ↓eval_func, ↓put_some, ↓op_move, ↓op_assign, ↓op_call, isD_d, ↓fnK_f, ↓call_H, ↓callK_H, ↓allT_nil, ↓allT_cons, ↓td_d, List.getD_cons_zero, List.getD_cons_succ, List.set_cons_zero, List.set_cons_succ, List.cons_append, List.nil_append, List.append_nil, List.map_cons, List.map_nil, List.length_cons, List.length_nil, List.all_cons, List.all_nil, Bool.and_self, Nat.reduceAdd, Nat.reduceSub, Nat.reduceMul, Nat.zero_add, List.replicate, evK_go, reduceIte, Nat.reduceEqDiff, Nat.reduceLT, and_self, Int.zero_add]
  simp (implicitDefEqProofs := false) (dsimp := false) only [told_call, ↓aw_seq, ↓aw_ret, ↓aw_reg, ↓Qseq_n, ↓Qret_r, ↓ops_nil, ↓ops_cons, ↓eval_tmp, ↓put_some, ↓binE_i, ↓bi_eql, ↓op_move, ↓op_assign, ↓op_bin, ↓orH_T, ↓td_d, ↓ret_1, List.getD_cons_zero, List.getD_cons_succ, List.set_cons_zero, List.set_cons_succ, Bool.and_self, Bool.true_or, Nat.reduceAdd, Nat.reduceSub, Nat.reduceMul, evK_go, reduceIte, Nat.reduceEqDiff, Nat.reduceLT, and_self]
theorem eerr_call (e n : Int) (pure : Bool) (σ : St) (dst : Option Tmp) (K : St → Prop) : CallH Tryd.prog 24 [erD e, I .i64 n] pure σ dst (.mk : Hid K) = OrH ((pure || D.flat (Bo (decide (e = n)))) = true ∧ evK (σ.put dst (.d (Bo (decide (e = n))))) (.mk : Hid K)) (.mk : Hid (CallH Tryd.prog 24 [erD e, I .i64 n] pure σ dst (.mk : Hid K))) := CallH.eq0 (eerr_spec e n) pure σ dst K
theorem eerr_callQ (e n : Int) (pure : Bool) (C : V → Prop) : CallQ Tryd.prog 24 [erD e, I .i64 n] pure (.mk : Hid C) = OrH ((pure || D.flat (Bo (decide (e = n)))) = true ∧ evK (V.d (Bo (decide (e = n)))) (.mk : Hid C)) (.mk : Hid (CallQ Tryd.prog 24 [erD e, I .i64 n] pure (.mk : Hid C))) := CallQ.eq0 (eerr_spec e n) pure C
end Go.Proofs

namespace Go.Proofs
open Go.Aw
set_option linter.unusedSimpArgs false
set_option maxRecDepth 10000
theorem tf1_spec  : FnD Tryd.prog 23 [I .i64 3, .l [.s [I .i64 2, I .i64 0], .s [I .i64 0, I .i64 1]]] (.t [.l [I .i64 2, I .i64 0, I .i64 1], erD 0]) := by
  have h := order_spec 3 [(2, 0), (0, 1)] (by decide)
  rw [show topoL 3 [(2, 0), (0, 1)] = [2, 0, 1] by decide +kernel, show topoE 3 [(2, 0), (0, 1)] = 0 by decide +kernel] at h
  exact h
theorem tf1_call  (pure : Bool) (σ : St) (dst : Option Tmp) (K : St → Prop) : CallH Tryd.prog 23 [I .i64 3, .l [.s [I .i64 2, I .i64 0], .s [I .i64 0, I .i64 1]]] pure σ dst (.mk : Hid K) = OrH ((pure || D.flat (.t [.l [I .i64 2, I .i64 0, I .i64 1], erD 0])) = true ∧ evK (σ.put dst (.d (.t [.l [I .i64 2, I .i64 0, I .i64 1], erD 0]))) (.mk : Hid K)) (.mk : Hid (CallH Tryd.prog 23 [I .i64 3, .l [.s [I .i64 2, I .i64 0], .s [I .i64 0, I .i64 1]]] pure σ dst (.mk : Hid K))) := CallH.eq0 (tf1_spec ) pure σ dst K
theorem tf1_callQ  (pure : Bool) (C : V → Prop) : CallQ Tryd.prog 23 [I .i64 3, .l [.s [I .i64 2, I .i64 0], .s [I .i64 0, I .i64 1]]] pure (.mk : Hid C) = OrH ((pure || D.flat (.t [.l [I .i64 2, I .i64 0, I .i64 1], erD 0])) = true ∧ evK (V.d (.t [.l [I .i64 2, I .i64 0, I .i64 1], erD 0])) (.mk : Hid C)) (.mk : Hid (CallQ Tryd.prog 23 [I .i64 3, .l [.s [I .i64 2, I .i64 0], .s [I .i64 0, I .i64 1]]] pure (.mk : Hid C))) := CallQ.eq0 (tf1_spec ) pure C
theorem tf2_spec  : FnD Tryd.prog 26 [I .i64 3, .l [.s [I .i64 2, I .i64 0], .s [I .i64 0, I .i64 1]]] (.t [.l [I .i64 1, I .i64 2, I .i64 0], erD 0]) := by
  have h := deepw_spec 3 [(2, 0), (0, 1)] (by decide)
  rw [show deepR 3 [(2, 0), (0, 1)] = [1, 2, 0] by decide +kernel, show topoE 3 [(2, 0), (0, 1)] = 0 by decide +kernel] at h
  exact h
theorem tf2_call  (pure : Bool) (σ : St) (dst : Option Tmp) (K : St → Prop) : CallH Tryd.prog 26 [I .i64 3, .l [.s [I .i64 2, I .i64 0], .s [I .i64 0, I .i64 1]]] pure σ dst (.mk : Hid K) = OrH ((pure || D.flat (.t [.l [I .i64 1, I .i64 2, I .i64 0], erD 0])) = true ∧ evK (σ.put dst (.d (.t [.l [I .i64 1, I .i64 2, I .i64 0], erD 0]))) (.mk : Hid K)) (.mk : Hid (CallH Tryd.prog 26 [I .i64 3, .l [.s [I .i64 2, I .i64 0], .s [I .i64 0, I .i64 1]]] pure σ dst (.mk : Hid K))) := CallH.eq0 (tf2_spec ) pure σ dst K
theorem tf2_callQ  (pure : Bool) (C : V → Prop) : CallQ Tryd.prog 26 [I .i64 3, .l [.s [I .i64 2, I .i64 0], .s [I .i64 0, I .i64 1]]] pure (.mk : Hid C) = OrH ((pure || D.flat (.t [.l [I .i64 1, I .i64 2, I .i64 0], erD 0])) = true ∧ evK (V.d (.t [.l [I .i64 1, I .i64 2, I .i64 0], erD 0])) (.mk : Hid C)) (.mk : Hid (CallQ Tryd.prog 26 [I .i64 3, .l [.s [I .i64 2, I .i64 0], .s [I .i64 0, I .i64 1]]] pure (.mk : Hid C))) := CallQ.eq0 (tf2_spec ) pure C
theorem tf3_spec  : FnD Tryd.prog 23 [I .i64 2, .l [.s [I .i64 0, I .i64 1], .s [I .i64 1, I .i64 0]]] (.t [.l [], erD 5]) := by
  have h := order_spec 2 [(0, 1), (1, 0)] (by decide)
  rw [show topoL 2 [(0, 1), (1, 0)] = [] by decide +kernel, show topoE 2 [(0, 1), (1, 0)] = 5 by decide +kernel] at h
  exact h
theorem tf3_call  (pure : Bool) (σ : St) (dst : Option Tmp) (K : St → Prop) : CallH Tryd.prog 23 [I .i64 2, .l [.s [I .i64 0, I .i64 1], .s [I .i64 1, I .i64 0]]] pure σ dst (.mk : Hid K) = OrH ((pure || D.flat (.t [.l [], erD 5])) = true ∧ evK (σ.put dst (.d (.t [.l [], erD 5]))) (.mk : Hid K)) (.mk : Hid (CallH Tryd.prog 23 [I .i64 2, .l [.s [I .i64 0, I .i64 1], .s [I .i64 1, I .i64 0]]] pure σ dst (.mk : Hid K))) := CallH.eq0 (tf3_spec ) pure σ dst K
theorem tf3_callQ  (pure : Bool) (C : V → Prop) : CallQ Tryd.prog 23 [I .i64 2, .l [.s [I .i64 0, I .i64 1], .s [I .i64 1, I .i64 0]]] pure (.mk : Hid C) = OrH ((pure || D.flat (.t [.l [], erD 5])) = true ∧ evK (V.d (.t [.l [], erD 5])) (.mk : Hid C)) (.mk : Hid (CallQ Tryd.prog 23 [I .i64 2, .l [.s [I .i64 0, I .i64 1], .s [I .i64 1, I .i64 0]]] pure (.mk : Hid C))) := CallQ.eq0 (tf3_spec ) pure C
theorem tf4_spec  : FnD Tryd.prog 25 [.l [I .i64 2, I .i64 0, I .i64 1], .l [I .i64 2, I .i64 0, I .i64 1]] (Bo true) := by
  exact ints_spec [2, 0, 1] [2, 0, 1] (by decide)
theorem tf4_call  (pure : Bool) (σ : St) (dst : Option Tmp) (K : St → Prop) : CallH Tryd.prog 25 [.l [I .i64 2, I .i64 0, I .i64 1], .l [I .i64 2, I .i64 0, I .i64 1]] pure σ dst (.mk : Hid K) = OrH ((pure || D.flat (Bo true)) = true ∧ evK (σ.put dst (.d (Bo true))) (.mk : Hid K)) (.mk : Hid (CallH Tryd.prog 25 [.l [I .i64 2, I .i64 0, I .i64 1], .l [I .i64 2, I .i64 0, I .i64 1]] pure σ dst (.mk : Hid K))) := CallH.eq0 (tf4_spec ) pure σ dst K
theorem tf4_callQ  (pure : Bool) (C : V → Prop) : CallQ Tryd.prog 25 [.l [I .i64 2, I .i64 0, I .i64 1], .l [I .i64 2, I .i64 0, I .i64 1]] pure (.mk : Hid C) = OrH ((pure || D.flat (Bo true)) = true ∧ evK (V.d (Bo true)) (.mk : Hid C)) (.mk : Hid (CallQ Tryd.prog 25 [.l [I .i64 2, I .i64 0, I .i64 1], .l [I .i64 2, I .i64 0, I .i64 1]] pure (.mk : Hid C))) := CallQ.eq0 (tf4_spec ) pure C
theorem tf5_spec  : FnD Tryd.prog 25 [.l [I .i64 1, I .i64 2, I .i64 0], .l [I .i64 1, I .i64 2, I .i64 0]] (Bo true) := by
  exact ints_spec [1, 2, 0] [1, 2, 0] (by decide)
theorem tf5_call  (pure : Bool) (σ : St) (dst : Option Tmp) (K : St → Prop) : CallH Tryd.prog 25 [.l [I .i64 1, I .i64 2, I .i64 0], .l [I .i64 1, I .i64 2, I .i64 0]] pure σ dst (.mk : Hid K) = OrH ((pure || D.flat (Bo true)) = true ∧ evK (σ.put dst (.d (Bo true))) (.mk : Hid K)) (.mk : Hid (CallH Tryd.prog 25 [.l [I .i64 1, I .i64 2, I .i64 0], .l [I .i64 1, I .i64 2, I .i64 0]] pure σ dst (.mk : Hid K))) := CallH.eq0 (tf5_spec ) pure σ dst K
theorem tf5_callQ  (pure : Bool) (C : V → Prop) : CallQ Tryd.prog 25 [.l [I .i64 1, I .i64 2, I .i64 0], .l [I .i64 1, I .i64 2, I .i64 0]] pure (.mk : Hid C) = OrH ((pure || D.flat (Bo true)) = true ∧ evK (V.d (Bo true)) (.mk : Hid C)) (.mk : Hid (CallQ Tryd.prog 25 [.l [I .i64 1, I .i64 2, I .i64 0], .l [I .i64 1, I .i64 2, I .i64 0]] pure (.mk : Hid C))) := CallQ.eq0 (tf5_spec ) pure C
theorem topofact_spec  : FnD Tryd.prog 27 [] (Bo true) := by
  refine FnD.go Tryd.func27 rfl rfl Tryd.results27 Tryd.ntmps27 ?_
  simp (implicitDefEqProofs := false) (dsimp := false) only [↓aw_seq, ↓aw_reg, ↓Qseq_n, ↓ops_nil, ↓ops_cons, ↓eval_tmp, ↓eval_int, ↓eval_bool, ↓eval_func, ↓put_some, ↓dK_d, ↓op_assign, ↓op_build, ↓op_call, isD_d, ↓fnK_f, ↓call_H, ↓callK_H, ↓allT_nil, ↓allT_cons, ↓allD_nil, ↓allD_cons, ↓td_d, ↓cells_c, ↓cells_s, ↓one_i, ↓bs_, ↓op_bs, ↓bsL_f, ↓stored_mk, ↓sl_nil, ↓sl_cons, ↓sT_move, ↓sT_assign, ↓sT_extract, ↓sT_build, ↓sT_bs, ↓sT_call, ↓vsz_agg, ↓inO_2, ↓fm_nil, ↓fm_cons, ↓sl22, ↓ty41, ↓zb41, ↓bd41, List.getD_cons_zero, List.getD_cons_succ, List.set_cons_zero, List.set_cons_succ, List.cons_append, List.nil_append, List.append_nil, List.map_cons, List.map_nil, List.length_cons, List.length_nil, List.all_cons, List.all_nil, Bool.true_and, Bool.and_self, Bool.or_false, Nat.reduceAdd, Nat.reduceSub, Nat.reduceMul, Nat.zero_add, List.replicate, evK_go, reduceIte, Nat.reduceEqDiff, Nat.reduceLT, and_self, true_and, Int.zero_add]
  simp (implicitDefEqProofs := false) (dsimp := false) only [tf1_call, tf2_call, tf3_call, tf4_call, tf5_call, eerr_call, eval_nilI, ↓er_eql, ↓cdK_true, ↓gdK_t, ↓gval_mk, ↓gvL_zero, ↓gvL_succ, ↓nthK_H, ↓nthH_zero, ↓nthH_succ, ↓aw_seq, ↓aw_ret, ↓aw_reg, ↓Qseq_n, ↓Qret_r, ↓ops_nil, ↓ops_cons, ↓ops_guard, ↓eval_tmp, ↓eval_int, ↓eval_func, ↓put_some, ↓bK_b, ↓dK_d, ↓tK_t, ↓op_move, ↓op_assign, ↓op_pick, ↓op_bin, ↓op_extract, ↓op_build, ↓op_call, ↓orH_T, isD_d, ↓fnK_f, ↓call_H, ↓callK_H, ↓allT_nil, ↓allT_cons, ↓allD_nil, ↓allD_cons, ↓td_d, ↓ret_1, ↓st_tm, ↓cells_c, ↓cells_s, ↓one_i, ↓bs_, ↓op_bs, ↓bsL_f, ↓stored_mk, ↓sl_nil, ↓sl_cons, ↓sT_move, ↓sT_assign, ↓sT_pick, ↓sT_bin, ↓sT_extract, ↓sT_build, ↓sT_bs, ↓sT_call, ↓vsz_int, ↓vsz_agg, ↓inO_2, ↓inO_3, ↓fm_nil, ↓fm_cons, ↓ty3, ↓zb3, ↓sl22, ↓sl24, ↓ty41, ↓zb41, ↓bd41, List.getD_cons_zero, List.getD_cons_succ, List.set_cons_zero, List.set_cons_succ, List.cons_append, List.nil_append, List.append_nil, List.map_cons, List.map_nil, List.length_cons, List.length_nil, List.all_cons, List.all_nil, Bool.and_true, Bool.true_and, Bool.and_self, Bool.true_or, Bool.or_false, Nat.reduceAdd, Nat.reduceSub, Nat.reduceMul, Nat.zero_add, evK_go, reduceIte, decide_true, Nat.reduceEqDiff, Nat.reduceLT, and_self, true_and, and_true, Int.zero_add]
  (repeat (first | refine OrH.l ?_ | refine ⟨⟨rfl, by decide⟩, ?_⟩ | refine ⟨by decide, ?_⟩ | refine ⟨by omega, ?_⟩ | exact ⟨rfl, by decide⟩ | decide))
theorem topofact_call  (pure : Bool) (σ : St) (dst : Option Tmp) (K : St → Prop) : CallH Tryd.prog 27 [] pure σ dst (.mk : Hid K) = OrH ((pure || D.flat (Bo true)) = true ∧ evK (σ.put dst (.d (Bo true))) (.mk : Hid K)) (.mk : Hid (CallH Tryd.prog 27 [] pure σ dst (.mk : Hid K))) := CallH.eq0 (topofact_spec ) pure σ dst K
theorem topofact_callQ  (pure : Bool) (C : V → Prop) : CallQ Tryd.prog 27 [] pure (.mk : Hid C) = OrH ((pure || D.flat (Bo true)) = true ∧ evK (V.d (Bo true)) (.mk : Hid C)) (.mk : Hid (CallQ Tryd.prog 27 [] pure (.mk : Hid C))) := CallQ.eq0 (topofact_spec ) pure C
end Go.Proofs

namespace Go.Proofs
open Go.Aw
set_option linter.unusedSimpArgs false
set_option maxRecDepth 10000
def sfL : List (Int × Int) := [(1, 2), (2, 1), (0, 1)]
theorem sf1_spec  : FnD Tryd.prog 58 [I .i64 3, .l [.s [I .i64 1, I .i64 2], .s [I .i64 2, I .i64 1], .s [I .i64 0, I .i64 1]]] (.t [.l [I .i64 0, I .i64 1, I .i64 1], erD 0]) := by
  have h := spartsS_spec 3 sfL (by decide)
  rw [show strongR 3 sfL = [0, 1, 1] by decide +kernel, show chk 3 sfL = 0 by decide +kernel] at h
  exact h
theorem sf1_call  (pure : Bool) (σ : St) (dst : Option Tmp) (K : St → Prop) : CallH Tryd.prog 58 [I .i64 3, .l [.s [I .i64 1, I .i64 2], .s [I .i64 2, I .i64 1], .s [I .i64 0, I .i64 1]]] pure σ dst (.mk : Hid K) = OrH ((pure || D.flat (.t [.l [I .i64 0, I .i64 1, I .i64 1], erD 0])) = true ∧ evK (σ.put dst (.d (.t [.l [I .i64 0, I .i64 1, I .i64 1], erD 0]))) (.mk : Hid K)) (.mk : Hid (CallH Tryd.prog 58 [I .i64 3, .l [.s [I .i64 1, I .i64 2], .s [I .i64 2, I .i64 1], .s [I .i64 0, I .i64 1]]] pure σ dst (.mk : Hid K))) := CallH.eq0 (sf1_spec ) pure σ dst K
theorem sf1_callQ  (pure : Bool) (C : V → Prop) : CallQ Tryd.prog 58 [I .i64 3, .l [.s [I .i64 1, I .i64 2], .s [I .i64 2, I .i64 1], .s [I .i64 0, I .i64 1]]] pure (.mk : Hid C) = OrH ((pure || D.flat (.t [.l [I .i64 0, I .i64 1, I .i64 1], erD 0])) = true ∧ evK (V.d (.t [.l [I .i64 0, I .i64 1, I .i64 1], erD 0])) (.mk : Hid C)) (.mk : Hid (CallQ Tryd.prog 58 [I .i64 3, .l [.s [I .i64 1, I .i64 2], .s [I .i64 2, I .i64 1], .s [I .i64 0, I .i64 1]]] pure (.mk : Hid C))) := CallQ.eq0 (sf1_spec ) pure C
theorem sf2_spec  : FnD Tryd.prog 59 [I .i64 3, .l [.s [I .i64 1, I .i64 2], .s [I .i64 2, I .i64 1], .s [I .i64 0, I .i64 1]]] (.t [.l [I .i64 0, I .i64 1, I .i64 1], .l [.s [I .i64 0, I .i64 1]], erD 0]) := by
  have h := fold_spec 3 sfL (by decide)
  rw [show foldO 3 sfL = [0, 1, 1] by decide +kernel, show foldL 3 sfL = [(0, 1)] by decide +kernel, show chk 3 sfL = 0 by decide +kernel] at h
  exact h
theorem sf2_call  (pure : Bool) (σ : St) (dst : Option Tmp) (K : St → Prop) : CallH Tryd.prog 59 [I .i64 3, .l [.s [I .i64 1, I .i64 2], .s [I .i64 2, I .i64 1], .s [I .i64 0, I .i64 1]]] pure σ dst (.mk : Hid K) = OrH ((pure || D.flat (.t [.l [I .i64 0, I .i64 1, I .i64 1], .l [.s [I .i64 0, I .i64 1]], erD 0])) = true ∧ evK (σ.put dst (.d (.t [.l [I .i64 0, I .i64 1, I .i64 1], .l [.s [I .i64 0, I .i64 1]], erD 0]))) (.mk : Hid K)) (.mk : Hid (CallH Tryd.prog 59 [I .i64 3, .l [.s [I .i64 1, I .i64 2], .s [I .i64 2, I .i64 1], .s [I .i64 0, I .i64 1]]] pure σ dst (.mk : Hid K))) := CallH.eq0 (sf2_spec ) pure σ dst K
theorem sf2_callQ  (pure : Bool) (C : V → Prop) : CallQ Tryd.prog 59 [I .i64 3, .l [.s [I .i64 1, I .i64 2], .s [I .i64 2, I .i64 1], .s [I .i64 0, I .i64 1]]] pure (.mk : Hid C) = OrH ((pure || D.flat (.t [.l [I .i64 0, I .i64 1, I .i64 1], .l [.s [I .i64 0, I .i64 1]], erD 0])) = true ∧ evK (V.d (.t [.l [I .i64 0, I .i64 1, I .i64 1], .l [.s [I .i64 0, I .i64 1]], erD 0])) (.mk : Hid C)) (.mk : Hid (CallQ Tryd.prog 59 [I .i64 3, .l [.s [I .i64 1, I .i64 2], .s [I .i64 2, I .i64 1], .s [I .i64 0, I .i64 1]]] pure (.mk : Hid C))) := CallQ.eq0 (sf2_spec ) pure C
theorem sf3_spec  : FnD Tryd.prog 25 [.l [I .i64 0, I .i64 1, I .i64 1], .l [I .i64 0, I .i64 1, I .i64 1]] (Bo true) := by
  have h := ints_spec [0, 1, 1] [0, 1, 1] (by decide)
  exact h
theorem sf3_call  (pure : Bool) (σ : St) (dst : Option Tmp) (K : St → Prop) : CallH Tryd.prog 25 [.l [I .i64 0, I .i64 1, I .i64 1], .l [I .i64 0, I .i64 1, I .i64 1]] pure σ dst (.mk : Hid K) = OrH ((pure || D.flat (Bo true)) = true ∧ evK (σ.put dst (.d (Bo true))) (.mk : Hid K)) (.mk : Hid (CallH Tryd.prog 25 [.l [I .i64 0, I .i64 1, I .i64 1], .l [I .i64 0, I .i64 1, I .i64 1]] pure σ dst (.mk : Hid K))) := CallH.eq0 (sf3_spec ) pure σ dst K
theorem sf3_callQ  (pure : Bool) (C : V → Prop) : CallQ Tryd.prog 25 [.l [I .i64 0, I .i64 1, I .i64 1], .l [I .i64 0, I .i64 1, I .i64 1]] pure (.mk : Hid C) = OrH ((pure || D.flat (Bo true)) = true ∧ evK (V.d (Bo true)) (.mk : Hid C)) (.mk : Hid (CallQ Tryd.prog 25 [.l [I .i64 0, I .i64 1, I .i64 1], .l [I .i64 0, I .i64 1, I .i64 1]] pure (.mk : Hid C))) := CallQ.eq0 (sf3_spec ) pure C
theorem sf4_spec  : FnD Tryd.prog 55 [.l [.s [I .i64 0, I .i64 1]], .l [.s [I .i64 0, I .i64 1]]] (Bo true) := by
  have h := elines_spec [(0, 1)] [(0, 1)] (by decide)
  exact h
theorem sf4_call  (pure : Bool) (σ : St) (dst : Option Tmp) (K : St → Prop) : CallH Tryd.prog 55 [.l [.s [I .i64 0, I .i64 1]], .l [.s [I .i64 0, I .i64 1]]] pure σ dst (.mk : Hid K) = OrH ((pure || D.flat (Bo true)) = true ∧ evK (σ.put dst (.d (Bo true))) (.mk : Hid K)) (.mk : Hid (CallH Tryd.prog 55 [.l [.s [I .i64 0, I .i64 1]], .l [.s [I .i64 0, I .i64 1]]] pure σ dst (.mk : Hid K))) := CallH.eq0 (sf4_spec ) pure σ dst K
theorem sf4_callQ  (pure : Bool) (C : V → Prop) : CallQ Tryd.prog 55 [.l [.s [I .i64 0, I .i64 1]], .l [.s [I .i64 0, I .i64 1]]] pure (.mk : Hid C) = OrH ((pure || D.flat (Bo true)) = true ∧ evK (V.d (Bo true)) (.mk : Hid C)) (.mk : Hid (CallQ Tryd.prog 55 [.l [.s [I .i64 0, I .i64 1]], .l [.s [I .i64 0, I .i64 1]]] pure (.mk : Hid C))) := CallQ.eq0 (sf4_spec ) pure C
end Go.Proofs

namespace Go.Proofs
open Go.Aw Go.ChangeShapes Go.WideShapes Go.ChangeAt Go.RowKit Go.Deep
set_option linter.unusedVariables false
set_option maxRecDepth 100000
theorem tkids : Kids Tryd.prog (· < Tryd.prog.types.size) := kids_rows (by kernel_rfl) (by kernel_rfl)
theorem tfull : ∀ t e, t < Tryd.prog.types.size → Tryd.prog.underlying t = some (.slice e) → 0 < Tryd.prog.cellsOf e := slices_full_of _ (by kernel_rfl)
theorem tu3 : Tryd.prog.underlying 3 = some (.int .i64) := by kernel_rfl
theorem tu4 : Tryd.prog.underlying 4 = some .bool := by kernel_rfl
theorem tu22 : Tryd.prog.underlying 22 = some (.slice 41) := by kernel_rfl
theorem tc35 : Tryd.prog.cellsOf 41 = 2 := by kernel_rfl
theorem tc3 : Tryd.prog.cellsOf 3 = 1 := by kernel_rfl
theorem tb35 : Tryd.prog.bytesOf 41 = 16 := by kernel_rfl
section
variable {H : Type} {enc : TypeId × Value → H} {P : Program} {w w' : World} {base : Nat} {spare : Nat → Bool} {held : Bool}
theorem trodAll_later : ∀ {ts : List TypeId} {vs : List Value} {ds : List (DataW H)} {ps : List MemPlace}, DataW.TrodAll enc P w base spare held ts vs ds ps → (∀ p ∈ ps, w.sameAt w' p) → DataW.TrodAll enc P w' base spare held ts vs ds ps
  | [], [], [], _, h, _ => h
  | _ :: _, _ :: _, _ :: _, _, ⟨p, q, ⟨n, h1⟩, h2, e⟩, hs => ⟨p, q, ⟨n, DataW.trod_carry n _ _ _ h1 (fun x hx => hs x (by rw [e]; exact List.mem_append_left _ hx))⟩, trodAll_later h2 (fun x hx => hs x (by rw [e]; exact List.mem_append_right _ hx)), e⟩
end
/-- A law's end: true, and all as it was. -/
theorem law_post {H : Type} {enc : TypeId × Value → H} {fn : Func} {s : ChangeSpec} {W W' : World} {args : Array Value} {ds gs : List (DataW H)} {before : List MemPlace} (hv : s.vars = []) (hrt : fn.resultTypes = #[4])
    (hpt : ∀ t ∈ fn.params.toList, t < Tryd.prog.types.size) (hW : DataW.Whole enc Tryd.prog fn.params.toList s.vars false W args.toList ds gs before)
    (hs : (s.fn H (ds ++ gs)).results = [.lit (.bool true)] ∧ (s.fn H (ds ++ gs)).args = ds ∧ (s.fn H (ds ++ gs)).vars = []) (hB : Below W.heap.size W W') : s.post enc Tryd.prog fn false true false false W args (.bool true) W' := by
  have hW' := hW
  obtain ⟨p, q, hA, hV, rfl, hfz, hnd⟩ := hW
  have hlt := hW'.lt
  rw [hv] at hV
  obtain ⟨rfl, rfl⟩ := trodVars_none hV
  obtain ⟨h1, h2, h3⟩ := hs
  refine ⟨ds, [], p ++ [], [], p, [], hW', ?_, ?_, ?_, hB.frame _, fun h => by cases h⟩
  · rw [h1, hrt]
    exact trodAll_mk1 (shut_bool tu4 true)
  · rw [h2]
    refine DataW.TrodAll.respare tkids tfull hpt (trodAll_later hA fun x hx => hB.same (hlt x (List.mem_append_left _ hx))) fun x hx => ?_
    simpa using hlt x (List.mem_append_left _ hx)
  · rw [h3, hv]; rfl
/-- What lies there already. -/
abbrev Old (W : World) (b : Nat) : Prop := b < W.heap.size
section
variable {H : Type} {enc : TypeId × Value → H} {W : World} {held : Bool}
theorem arg_int {v : Value} {d : DataW H} {p : List MemPlace} {r : Reach} {b0 : Nat} (hval : Value.okWide Tryd.prog W r b0 3 v) (h : DataW.Trod enc Tryd.prog W 0 (fun _ => true) held 3 v d p) : ∃ n : Int, RelD W (Old W) (I .i64 n) v ∧ (-9223372036854775808 ≤ n ∧ n ≤ 9223372036854775807) := by
  obtain ⟨n, rfl, _, _, hw⟩ := open_int tu3 hval h
  exact ⟨n, .c _, by simpa [Lit.wf, IntKind.min, IntKind.max, IntKind.signed, IntKind.bits] using hw⟩
theorem arg_lines {v : Value} {d : DataW H} {p : List MemPlace} {r : Reach} {b0 : Nat} (hval : Value.okWide Tryd.prog W r b0 22 v) (h : DataW.Trod enc Tryd.prog W 0 (fun _ => true) held 22 v d p) :
    ∃ l : List (Int × Int), RelD W (Old W) (.l (l.map lnD)) v ∧ ((d = .nil ∧ l = []) ∨ ∃ elems spare, d = .slice elems spare ∧ elems.length = l.length) := by
  obtain ⟨a0, len, cap, rfl⟩ := okWide_slice tu22 hval
  obtain ⟨fuel, hf⟩ := h
  rcases open_slice_pairs tu22 Tryd.underlying41 tc35 rfl rfl tc3 tc3 hf with ⟨hcs, hx⟩ | ⟨a, len', cap', m, n, V0, V1, D0, D1, P0, P1, hcs, _, hl, hm, hmm, hx, hc⟩
  · simp [Value.cells] at hcs
    obtain ⟨rfl, rfl, rfl⟩ := hcs
    simp (implicitDefEqProofs := false) (dsimp := false) only [Prod.mk.injEq] at hx
    exact ⟨[], .nl none 0, .inl ⟨hx.1, rfl⟩⟩
  · simp [Value.cells] at hcs
    obtain ⟨rfl, rfl, rfl⟩ := hcs
    simp (implicitDefEqProofs := false) (dsimp := false) only [Prod.mk.injEq] at hx
    simp (implicitDefEqProofs := false) (dsimp := false) only [if_true] at hmm
    subst hmm
    have hint : ∀ i, ∃ q : Int × Int, i < len → W.cell? (a.add (i * 2)) = some (.int .i64 q.1) ∧ W.cell? (a.add (i * 2 + 1)) = some (.int .i64 q.2) := by
      intro i
      by_cases hi : i < len
      · obtain ⟨h1, h2, h3, h4⟩ := hc i (by omega)
        obtain ⟨x, e1, _, _⟩ := DataW.trod_int tu3 h3
        obtain ⟨y, e2, _, _⟩ := DataW.trod_int tu3 h4
        simp (implicitDefEqProofs := false) (dsimp := false) only [List.cons.injEq, and_true] at e1 e2
        exact ⟨(x, y), fun _ => ⟨by rw [h1, e1], by rw [h2, e2]⟩⟩
      · exact ⟨(0, 0), fun h => absurd h hi⟩
    obtain ⟨Q, hQ⟩ : ∃ Q : Nat → Int × Int, ∀ i, i < len → W.cell? (a.add (i * 2)) = some (.int .i64 (Q i).1) ∧ W.cell? (a.add (i * 2 + 1)) = some (.int .i64 (Q i).2) := ⟨fun i => Classical.choose (hint i), fun i => Classical.choose_spec (hint i)⟩
    refine ⟨(List.range len).map Q, ?_, .inr ⟨_, _, hx.1, by simp⟩⟩
    by_cases h0 : len = 0
    · subst h0; exact .nl _ _
    have hxs : ∀ (i : Nat) (x : D), (((List.range len).map Q).map lnD)[i]? = some x → i < len ∧ x = lnD (Q i) := by
      intro i x hx
      rw [List.getElem?_map, List.getElem?_map] at hx
      by_cases hi : i < len
      · rw [List.getElem?_range hi] at hx
        simp at hx
        exact ⟨hi, hx.symm⟩
      · rw [List.getElem?_eq_none (by simp; omega)] at hx; cases hx
    have hlen : len = (((List.range len).map Q).map lnD).length := by simp
    have hrel := RelD.l (w := W) (N := Old W) (((List.range len).map Q).map lnD) a _ 2 (fun i k => if k = 0 then .int .i64 (Q i).1 else .int .i64 (Q i).2) (by rw [← hlen]; exact hl) ?_ ?_ ?_ ?_
    · rw [← hlen] at hrel
      exact hrel
    · have := (hQ 0 (by omega)).1
      unfold World.cell? at this
      split at this
      · rename_i C et fr hb
        have hb' := (Array.getElem?_eq_some_iff.1 hb).1
        rw [add_block] at hb'
        exact hb'
      · cases this
    · intro i x hx
      obtain ⟨_, rfl⟩ := hxs i x hx
      rfl
    · intro i k x y hx hy
      obtain ⟨hi, rfl⟩ := hxs i x hx
      match k, hy with
      | 0, hy => exact (hQ i hi).1
      | 1, hy => exact (hQ i hi).2
    · intro i k x y hx hy
      obtain ⟨hi, rfl⟩ := hxs i x hx
      match k, hy with
      | 0, hy => cases hy; exact .c _
      | 1, hy => cases hy; exact .c _
theorem arg_line {v : Value} {d : DataW H} {p : List MemPlace} {r : Reach} {b0 : Nat} (hval : Value.okWide Tryd.prog W r b0 41 v) (h : DataW.Trod enc Tryd.prog W 0 (fun _ => true) held 41 v d p) :
    ∃ q : Int × Int, RelD W (Old W) (lnD q) v ∧ True := by
  obtain ⟨v0, v1, y0, y1, n, rfl, _, _, h3, h4⟩ := Joins.open_agg2 Tryd.underlying41 (by kernel_rfl) tc35 hval h
  obtain ⟨x, e1, _, _⟩ := DataW.trod_int tu3 h3
  obtain ⟨y, e2, _, _⟩ := DataW.trod_int tu3 h4
  simp (implicitDefEqProofs := false) (dsimp := false) only [List.cons.injEq, and_true] at e1 e2
  subst e1
  subst e2
  refine ⟨(x, y), ?_, trivial⟩
  refine RelD.s _ _ (by rfl) fun k z u hz hu => ?_
  match k, hz, hu with
  | 0, hz, hu => cases hz; cases hu; exact .c _
  | 1, hz, hu => cases hz; cases hu; exact .c _
theorem lines_len {ts : List TypeId} {ds : List (DataW H)} {j : Nat} {l : List (Int × Int)} (h : (DataW.weightsEach Tryd.prog ts ds).all (· ≤ reachBytes) = true) (ht : ts[j]? = some 22) {d : DataW H} (hd : ds[j]? = some d)
    (hl : (d = .nil ∧ l = []) ∨ ∃ elems spare, d = .slice elems spare ∧ elems.length = l.length) : l.length < 2 ^ 43 := by
  rcases hl with ⟨_, rfl⟩ | ⟨elems, spare, rfl, e⟩
  · simp
  · have := sized_slice h ht hd tu22
    rw [tb35] at this
    have := reachBytes_lt
    omega
end
theorem argsOK_nil (w : World) (N : Nat → Prop) : ArgsOK w N [] [] := ⟨rfl, fun k d v h => by simp at h⟩
theorem argsOK_cons {w : World} {N : Nat → Prop} {d : D} {ds : List D} {v : Value} {vs : List Value} (h : RelD w N d v) (hs : ArgsOK w N ds vs) : ArgsOK w N (d :: ds) (v :: vs) :=
  ⟨by simp [hs.1], fun k d' v' hd hv => by
    cases k with
    | zero => simp at hd hv; subst hd; subst hv; exact h
    | succ k => exact hs.2 k d' v' (by simpa using hd) (by simpa using hv)⟩
theorem Tryd.et : Tryd.prog.globalNamed "errors.errorType" = some 0 := by kernel_rfl
theorem Tryd.rt : (Tryd.prog.cutTypes.find? (·.1 == "internal/reflectlite.rtype")).map (·.2) = some 142 := by kernel_rfl
theorem Tryd.oneRow : ((List.range 184).filter fun t => Tryd.prog.rowNamed t [101, 114, 114, 111, 114]) = [29] := by kernel_rfl
theorem Tryd.tsize : Tryd.prog.types.size = 184 := by kernel_rfl
theorem hnd_at : hnd Tryd.prog = .iface (142) (.agg #[.pointer (some ⟨1, 29, none⟩)]) := by kernel_rfl
/-- The listed variable's one cell. -/
theorem gl_of_laid {W : World} (h : laidMetH Tryd.prog [("errors.errorType", .iface "internal/reflectlite.rtype" (.agg [.ptr (.lit (.string [101, 114, 114, 111, 114]))]))] W) : Gl Tryd.prog W := fun g hg => by
  obtain rfl := Option.some.inj (Tryd.et.symm.trans hg)
  rw [hnd_at]
  have h' : laidMet Tryd.prog [] W ∧ handlesMet Tryd.prog [("errors.errorType", .iface "internal/reflectlite.rtype" (.agg [.ptr (.lit (.string [101, 114, 114, 111, 114]))]))] W := h
  obtain ⟨name, u, ty, e1, e2, e3, e4, e5⟩ := h'.2 _ (List.mem_singleton.2 rfl)
  have en : name = [101, 114, 114, 111, 114] := (Option.some.inj e1).symm
  subst en
  obtain rfl := Option.some.inj (Tryd.rt.symm.trans e2)
  have hm : ty ∈ (List.range 184).filter fun t => Tryd.prog.rowNamed t [101, 114, 114, 111, 114] := List.mem_filter.2 ⟨List.mem_range.2 (by rw [← Tryd.tsize]; exact e3), e4⟩
  rw [Tryd.oneRow] at hm
  obtain rfl := List.mem_singleton.1 hm
  have hh : typeHandle Tryd.prog (29) = .pointer (some ⟨1, 29, none⟩) := by kernel_rfl
  rw [hh] at e5
  simpa using World.var?_cell Tryd.et e5 0
/-- A law's call. -/
theorem law_calls {f : FuncId} {ds : List D} (h : FnD Tryd.prog f ds (Bo true)) (W : World) (hg : Gl Tryd.prog W) (vs : List Value) (ha : ArgsOK W (Old W) ds vs) : Calls Tryd.prog f vs.toArray W fun e W' => e = .returned (.bool true) ∧ Below W.heap.size W W' := by
  have := callsIn_wide.1 (h.2 W (Old W) vs hg (fun b h => h) ha)
  refine this.mono fun e W' ⟨r, v, hr, he, hB, hres⟩ => ?_
  subst hr
  have hv : v = .bool true := relD_c hres
  exact ⟨by rw [he, hv], hB⟩
end Go.Proofs

namespace Go.Proofs
open Go.Aw
set_option linter.unusedSimpArgs false
set_option maxRecDepth 10000
def flipI (p : Int × Int) : Int × Int := (p.2, p.1)
/-- Lines from the last one on, each the other way. -/
def backI (l : List (Int × Int)) : List (Int × Int) := l.reverse.map flipI
theorem rev_getD {l : List (Int × Int)} {k : Nat} (h : k < l.length) : l.reverse.getD k default = l.getD (l.length - 1 - k) default := by
  rw [List.getD_eq_getElem?_getD, List.getD_eq_getElem?_getD, List.getElem?_reverse h]
theorem back_spec (l : List (Int × Int)) (hpre : l.length < 2 ^ 43) : FnR Tryd.prog 32 [.l (l.map lnD)] 2 ((backI l).map lnD) := by
  refine FnR.go Tryd.func32 rfl rfl Tryd.results32 Tryd.ntmps32 ?_
  simp (implicitDefEqProofs := false) (dsimp := false) only [↓aw_seq, ↓aw_block, ↓aw_loop, ↓aw_reg, ↓Qseq_n, ↓ops_nil, ↓ops_cons, ↓eval_tmp, ↓eval_int, ↓eval_nil, ↓put_some, ↓lenK_l, ↓binE_i, ↓bi_sub, ↓in_i64, ↓op_move, ↓op_assign, ↓op_bin, ↓op_len, ↓sl22, List.getD_cons_zero, List.getD_cons_succ, List.set_cons_zero, List.set_cons_succ, List.cons_append, List.nil_append, List.map_cons, List.map_nil, List.length_cons, List.length_nil, List.length_map, Nat.reduceAdd, Nat.reduceSub, Nat.reduceMul, Nat.zero_add, List.replicate, evK_go, reduceIte, Nat.reduceEqDiff, Nat.reduceLT, Int.zero_add]
  refine ⟨by omega, ?_⟩
  refine loopW (fun k : Nat => { tm := slots 27 [(0, .d (.l (l.map lnD))), (3, .o 0 0 k), (4, .d (I .i64 ((l.length : Int) - 1 - k)))], bx := [], rw := [some ⟨2, ((l.reverse.take k).map flipI).map lnD⟩] })
    (fun k => k ≤ l.length) (fun k => l.length - k) 0 (by simp) ?_ ?_
  · refine Wkn.of [] [none] ?_
    simp (implicitDefEqProofs := false) (dsimp := false) only [↓row_xs, List.set_cons_zero, List.set_cons_succ, List.map_nil, Bool.and_true, Bool.true_and, Bool.and_self, Nat.reduceAdd, Nat.reduceSub, Nat.reduceMul, List.replicate, evK_go, reduceIte, Nat.reduceEqDiff, Nat.reduceLT, and_self, true_and, and_true, List.take_zero, List.foldl_cons, List.foldl_nil, Int.cast_ofNat_Int, slots, wkL_nil, wkL_cons, wkB_nil, wkR_nil, wkR_new, wkV_j, wkV_d, nlK_nl, wkV_o, frz_d, oK_zn, dc_eq, reduceCtorEq]
    simp
  · intro k hk
    simp (implicitDefEqProofs := false) (dsimp := false) only [slots, ↓aw_cond, ↓aw_seq, ↓aw_reg, ↓Qseq_n, ↓ops_nil, ↓ops_cons, ↓eval_tmp, ↓eval_int, ↓put_some, ↓bK_b, ↓binE_i, ↓bi_geq, ↓op_move, ↓op_bin, List.getD_cons_zero, List.getD_cons_succ, List.set_cons_zero, List.set_cons_succ, Nat.reduceAdd, Nat.reduceSub, Nat.reduceMul, List.replicate, evK_go, reduceIte, Nat.reduceEqDiff, Nat.reduceLT, List.foldl_cons, List.foldl_nil]
    refine cdK_dec (fun h => ?_) (fun h => ?_)
    · have hkl : k < l.length := by omega
      have e : ((l.length : Int) - 1 - k).toNat = l.length - 1 - k := by omega
      have h1 : l.length - 1 - k < l.length := by omega
      have h2 : (0 : Int) ≤ (l.length : Int) - 1 - k := by omega
      simp (implicitDefEqProofs := false) (dsimp := false) only [e, h1, h2, lnD_cells, ↓optK_some, ↓rwK_mk_, ↓atK_H, ↓atH_map, ↓aw_seq, ↓aw_block, ↓aw_skip, ↓aw_reg, ↓aw_draw, ↓Qseq_n, ↓Qblk_n, ↓ops_nil, ↓ops_cons, ↓eval_tmp, ↓eval_int, ↓put_some, ↓iK_i, ↓dK_d, ↓ev_move, ↓ev_load, ↓ev_fa, ↓ev_ia, ↓ev_build, ↓binE_i, ↓bi_sub, ↓in_i64, ↓ldK_q, ↓faK_q, ↓iaK_l, ↓op_move, ↓op_assign, ↓op_bin, ↓op_append, ↓allD_nil, ↓allD_cons, ↓draw_H, ↓h_cons, ↓ldH_t, ↓ldH_n, ↓q_bs, ↓q_move, ↓q_load, ↓q_fa, ↓q_ia, ↓q_build, ↓il_move, ↓il_load, ↓il_fa, ↓il_ia, ↓il_build, ↓il_bs, ↓il_append, ↓app_mk, ↓row_sz, ↓row_xs, kill_d, kill_j, kill_o, ↓cells_c, ↓cells_s, ↓one_i, ↓ap_, ↓ap_o, ↓src_l, ↓bs_, ↓vsz_agg, ↓inO_1, ↓fm_nil, ↓fm_cons, ↓hd_cons, ↓ty3, ↓sl22, ↓ty41, ↓zb41, ↓fd41_0, ↓fd41_1, ↓bd41, List.getD_cons_zero, List.getD_cons_succ, List.set_cons_zero, List.set_cons_succ, List.cons_append, List.nil_append, List.map_cons, List.map_nil, List.length_cons, List.length_nil, List.length_map, List.all_cons, List.all_nil, Bool.true_and, Bool.and_self, Nat.reduceAdd, Nat.reduceSub, Nat.reduceMul, Nat.zero_add, evK_go, reduceIte, decide_true, Nat.reduceEqDiff, Nat.reduceLT, and_self, true_and, Int.zero_add, List.drop_zero, List.drop_succ_cons]
      refine OrH.l ⟨DrawH.of follows_mixed (by kernel_rfl), ⟨rfl, by decide⟩, rfl, ⟨fun _ => trivial, by simp; omega, by omega, by omega⟩, by omega, k + 1, by omega, by omega, ?_⟩
      refine Wkn.of [] [some 0] ?_
      have hkr : k < l.reverse.length := by simpa using hkl
      have e5 : (l.length : Int) - 1 - k - 1 = (l.length : Int) - 1 - ((k + 1 : Nat) : Int) := by omega
      simp (implicitDefEqProofs := false) (dsimp := false) only [e5, take_succ_getD hkr, rev_getD hkl, List.map_append, lnD, flipI, List.getD_cons_zero, List.set_cons_zero, List.set_cons_succ, List.map_cons, List.map_nil, Bool.and_self, Nat.reduceAdd, Nat.reduceSub, Nat.reduceMul, List.replicate, evK_go, reduceIte, Nat.reduceEqDiff, Nat.reduceLT, and_self, List.foldl_cons, List.foldl_nil, Int.cast_ofNat_Int, Int.natCast_add, slots, wkL_nil, wkL_cons, wkB_nil, wkR_nil, wkR_some, wkV_j, wkV_d, wkV_o, frz_d, oK_zs, reduceCtorEq]
    · obtain rfl : k = l.length := by omega
      simp (implicitDefEqProofs := false) (dsimp := false) only [↓optK_some, ↓rwK_mk_, ↓aw_seq, ↓aw_exit, ↓aw_ret, ↓aw_reg, ↓Qseq_n, ↓Qseq_x, ↓Qblk_x, ↓ops_nil, ↓ops_cons, ↓eval_tmp, ↓put_some, ↓op_move, ↓op_assign, ↓row_sz, ↓row_xs, ↓Qrow_r, ↓rowK_o, List.getD_cons_zero, List.getD_cons_succ, List.set_cons_zero, List.set_cons_succ, Bool.true_and, Nat.reduceAdd, Nat.reduceSub, Nat.reduceMul, evK_go, reduceIte, Nat.reduceEqDiff, Nat.reduceLT, true_and]
      have e1 : List.take l.length l.reverse = l.reverse := List.take_of_length_le (by simp)
      rw [e1]
      exact List.take_of_length_le (by simp)
theorem back_call (l : List (Int × Int)) (pure : Bool) (σ : St) (dst : Option Tmp) (K : St → Prop) : CallH Tryd.prog 32 [.l (l.map lnD)] pure σ dst (.mk : Hid K) = OrH ((l.length < 2 ^ 43) ∧ (pure || Res.flat (.row 2 ((backI l).map lnD))) = true ∧ evK ((σ.addRow ⟨2, (backI l).map lnD⟩).put dst (.o σ.rw.length 0 (List.length ((backI l).map lnD)))) (.mk : Hid K)) (.mk : Hid (CallH Tryd.prog 32 [.l (l.map lnD)] pure σ dst (.mk : Hid K))) := CallH.eqR (fun h => back_spec l h) pure σ dst K
theorem back_callD (l : List (Int × Int)) (pure : Bool) (σ : St) (dst : Option Tmp) (K : St → Prop) : CallH Tryd.prog 32 [.l (l.map lnD)] pure σ dst (.mk : Hid K) = OrH ((l.length < 2 ^ 43) ∧ (pure || D.flat (.l ((backI l).map lnD))) = true ∧ evK (σ.put dst (.d (.l ((backI l).map lnD)))) (.mk : Hid K)) (.mk : Hid (CallH Tryd.prog 32 [.l (l.map lnD)] pure σ dst (.mk : Hid K))) := CallH.eq (fun h => ((fun h => back_spec l h) h).data) pure σ dst K
theorem back_callDQ (l : List (Int × Int)) (pure : Bool) (C : V → Prop) : CallQ Tryd.prog 32 [.l (l.map lnD)] pure (.mk : Hid C) = OrH ((l.length < 2 ^ 43) ∧ (pure || D.flat (.l ((backI l).map lnD))) = true ∧ evK (V.d (.l ((backI l).map lnD))) (.mk : Hid C)) (.mk : Hid (CallQ Tryd.prog 32 [.l (l.map lnD)] pure (.mk : Hid C))) := CallQ.eq (fun h => ((fun h => back_spec l h) h).data) pure C
end Go.Proofs

namespace Go.Proofs
open Go.Aw
set_option linter.unusedSimpArgs false
set_option maxRecDepth 10000
theorem nD_ints (s : List Nat) : s.map nD = (s.map Int.ofNat).map (I .i64) := by rw [List.map_map]; rfl
theorem intsN_spec (a b : List Nat) (hpre : a.length < 2 ^ 62) : FnD Tryd.prog 25 [.l (a.map nD), .l (b.map nD)] (Bo (decide (a = b))) := by
  have h := ints_spec (a.map Int.ofNat) (b.map Int.ofNat) (by simpa using hpre)
  rw [← nD_ints, ← nD_ints] at h
  have e : (decide (a.map Int.ofNat = b.map Int.ofNat)) = decide (a = b) := by
    by_cases hab : a = b
    · simp [hab]
    · simp (implicitDefEqProofs := false) (dsimp := false) only [hab, decide_false, decide_eq_false_iff_not]; exact fun e => hab (ofNat_inj e)
  rw [e] at h
  exact h
theorem intsN_call (a b : List Nat) (pure : Bool) (σ : St) (dst : Option Tmp) (K : St → Prop) : CallH Tryd.prog 25 [.l (a.map nD), .l (b.map nD)] pure σ dst (.mk : Hid K) = OrH ((a.length < 2 ^ 62) ∧ (pure || D.flat (Bo (decide (a = b)))) = true ∧ evK (σ.put dst (.d (Bo (decide (a = b))))) (.mk : Hid K)) (.mk : Hid (CallH Tryd.prog 25 [.l (a.map nD), .l (b.map nD)] pure σ dst (.mk : Hid K))) := CallH.eq (intsN_spec a b) pure σ dst K
theorem intsN_callQ (a b : List Nat) (pure : Bool) (C : V → Prop) : CallQ Tryd.prog 25 [.l (a.map nD), .l (b.map nD)] pure (.mk : Hid C) = OrH ((a.length < 2 ^ 62) ∧ (pure || D.flat (Bo (decide (a = b)))) = true ∧ evK (V.d (Bo (decide (a = b)))) (.mk : Hid C)) (.mk : Hid (CallQ Tryd.prog 25 [.l (a.map nD), .l (b.map nD)] pure (.mk : Hid C))) := CallQ.eq (intsN_spec a b) pure C
theorem firstErr_iff {f : Int × Int → Int} {l : List (Int × Int)} : firstErr f l = 0 ↔ ∀ p ∈ l, f p = 0 := by
  refine ⟨firstErr_zero, fun h => ?_⟩
  induction l with
  | nil => rfl
  | cons p l ih =>
    simp (implicitDefEqProofs := false) (dsimp := false) only [firstErr, h p (by simp), if_true]
    exact ih fun q hq => h q (by simp [hq])
theorem chk_iff {n : Int} {l : List (Int × Int)} : chk n l = 0 ↔ (1 ≤ n ∧ n ≤ 8) ∧ l.length ≤ 24 ∧ ∀ p ∈ l, lineErr n p = 0 := by
  unfold chk
  split
  · rename_i h
    have : ¬ (1 ≤ n ∧ n ≤ 8) := by simpa [inB] using h
    constructor
    · intro h; cases h
    · intro h; exact absurd h.1 this
  · rename_i h
    have : 1 ≤ n ∧ n ≤ 8 := by simpa [inB] using h
    split
    · constructor
      · intro h; cases h
      · intro h; omega
    · rw [firstErr_iff]
      constructor
      · intro h; exact ⟨this, by omega, h⟩
      · intro h; exact h.2.2
theorem lineErr_iff {n : Int} {p : Int × Int} : lineErr n p = 0 ↔ (0 ≤ p.1 ∧ p.1 ≤ n - 1) ∧ (0 ≤ p.2 ∧ p.2 ≤ n - 1) ∧ p.1 ≠ p.2 := by
  unfold lineErr
  split
  · rename_i h
    constructor
    · intro h; cases h
    · intro h2; simp [inB, h2] at h
  · rename_i h
    simp (implicitDefEqProofs := false) (dsimp := false) only [Bool.not_eq_false, Bool.and_eq_true, inB, decide_eq_true_eq] at h
    split
    · rename_i h3
      constructor
      · intro h; cases h
      · intro h2; exact absurd h3 h2.2.2
    · rename_i h3
      exact ⟨fun _ => ⟨h.1, h.2, h3⟩, fun _ => rfl⟩
theorem chk_back {n : Int} {l : List (Int × Int)} : chk n (backI l) = 0 ↔ chk n l = 0 := by
  rw [chk_iff, chk_iff]
  have hl : (backI l).length = l.length := by simp [backI]
  rw [hl]
  refine and_congr_right fun _ => and_congr_right fun _ => ?_
  constructor
  · intro h p hp
    have := h (flipI p) (List.mem_map.2 ⟨p, by simpa using hp, rfl⟩)
    rw [lineErr_iff] at this ⊢
    exact ⟨this.2.1, this.1, fun e => this.2.2 e.symm⟩
  · intro h p hp
    obtain ⟨q, hq, rfl⟩ := List.mem_map.1 hp
    have := h q (by simpa using hq)
    rw [lineErr_iff] at this ⊢
    exact ⟨this.2.1, this.1, fun e => this.2.2 e.symm⟩
theorem natL_back (l : List (Int × Int)) : natL (backI l) = backL (natL l) := by
  unfold natL backI backL
  rw [List.map_map, ← List.map_reverse, List.map_map]
  rfl
theorem strongR_back (n : Int) (l : List (Int × Int)) : strongR n (backI l) = strongR n l := by
  unfold strongR
  by_cases h : chk n l = 0
  · rw [if_pos h, if_pos (chk_back.2 h), natL_back]
    have ok := chk_ok h
    exact strong_turn (by have := ok.hi; omega) ok.good
  · rw [if_neg h, if_neg (fun h' => h (chk_back.1 h'))]
theorem strongR_len (n : Int) (l : List (Int × Int)) : 0 < (strongR n l).length ↔ chk n l = 0 := by
  unfold strongR
  by_cases h : chk n l = 0
  · rw [if_pos h]
    have := (chk_ok h).lo
    simp [strongP, h]; omega
  · rw [if_neg h]; simp [h]
theorem strongR_le (n : Int) (l : List (Int × Int)) : (strongR n l).length ≤ 8 := by
  unfold strongR
  split
  · rename_i h
    have := (chk_ok h).hi
    simp [strongP]; omega
  · simp
end Go.Proofs

namespace Go.Proofs
open Go.Aw
set_option linter.unusedSimpArgs false
set_option maxRecDepth 10000
/-- All but one. -/
def butK {α : Type} [Inhabited α] (l : List α) (k : Int) (i : Nat) : List α := ((List.range i).filter fun j : Nat => !decide ((j : Int) = k)).map fun j => l.getD j default
def butL {α : Type} [Inhabited α] (l : List α) (k : Int) : List α := butK l k l.length
theorem butK_succ {α : Type} [Inhabited α] (l : List α) (k : Int) (i : Nat) : butK l k (i + 1) = if (i : Int) = k then butK l k i else butK l k i ++ [l.getD i default] := by
  unfold butK
  rw [List.range_succ, List.filter_append, List.map_append]
  by_cases h : (i : Int) = k <;> simp [h]
theorem butK_len {α : Type} [Inhabited α] (l : List α) (k : Int) (i : Nat) : (butK l k i).length ≤ i := by
  unfold butK
  rw [List.length_map]
  exact Nat.le_trans (List.length_filter_le _ _) (by simp)
theorem but_mem {α : Type} [Inhabited α] {l : List α} {k : Int} {x : α} (h : x ∈ butL l k) : x ∈ l := by
  obtain ⟨j, hj, rfl⟩ := List.mem_map.1 h
  exact getD_mem (by simpa using (List.mem_filter.1 hj).1)
theorem but_map {α β : Type} [Inhabited α] [Inhabited β] (f : α → β) (l : List α) (k : Int) : butL (l.map f) k = (butL l k).map f := by
  unfold butL butK
  rw [List.length_map, List.map_map]
  refine List.map_congr_left fun j hj => ?_
  have : j < l.length := by simpa using (List.mem_filter.1 hj).1
  simp [List.getD_eq_getElem?_getD, this]
theorem but_erase {α : Type} [Inhabited α] (l : List α) (k : Nat) (hk : k < l.length) : butL l (k : Int) = l.eraseIdx k := by
  have key : ∀ i, i ≤ l.length → butK l (k : Int) i = if k < i then (l.take i).eraseIdx k else l.take i := by
    intro i
    induction i with
    | zero => intro _; simp [butK]
    | succ i ih =>
      intro hi
      rw [butK_succ, ih (by omega)]
      rcases Nat.lt_trichotomy i k with h | h | h
      · rw [if_neg (by omega), if_neg (by omega), if_neg (by omega), take_succ_getD (by omega)]
      · subst h
        rw [if_pos rfl, if_neg (by omega), if_pos (by omega), take_succ_getD (by omega), List.eraseIdx_append_of_length_le (by simp; omega)]
        simp [show min i l.length = i by omega]
      · rw [if_neg (by omega), if_pos h, if_pos (by omega), take_succ_getD (by omega), List.eraseIdx_append_of_lt_length (by simp; omega)]
  have := key l.length (Nat.le_refl _)
  rw [if_pos hk, List.take_length] at this
  exact this
/-- The place of a number. -/
def place (l : List Int) (n : Int) : Int := if n ∈ l then (l.idxOf n : Nat) else -1
theorem place_at {l : List Int} {n : Int} {k : Nat} (h : k < l.length) (h0 : n ∉ l.take k) (e : l.getD k default = n) : place l n = k := by
  have hm : n ∈ l := by rw [← e]; exact getD_mem h
  unfold place
  rw [if_pos hm]
  have h1 : l = l.take k ++ n :: l.drop (k + 1) := by
    conv => lhs; rw [← List.take_append_drop k l]
    congr 1
    rw [List.drop_eq_getElem_cons h]
    congr 1
    rw [← e, List.getD_eq_getElem?_getD, List.getElem?_eq_getElem h]; rfl
  rw [h1, List.idxOf_append, if_neg h0]
  simp; omega
theorem place_spec (l : List Int) (n : Int) (hpre : l.length < 2 ^ 62) : FnD Tryd.prog 31 [.l (l.map (I .i64)), I .i64 n] (I .i64 (place l n)) := by
  refine FnD.go Tryd.func31 rfl rfl Tryd.results31 Tryd.ntmps31 ?_
  simp (implicitDefEqProofs := false) (dsimp := false) only [↓aw_seq, ↓aw_block, ↓aw_loop, ↓aw_reg, ↓Qseq_n, ↓ops_nil, ↓ops_cons, ↓eval_int, ↓put_some, ↓op_assign, List.set_cons_zero, List.set_cons_succ, List.cons_append, List.nil_append, List.map_cons, List.map_nil, List.length_cons, List.length_nil, Nat.reduceAdd, Nat.reduceSub, Nat.reduceMul, Nat.zero_add, List.replicate, evK_go, reduceIte, Nat.reduceEqDiff, Nat.reduceLT, Int.zero_add]
  refine loopW (fun k : Nat => { tm := slots 19 [(0, .d (.l (l.map (I .i64)))), (1, .d (I .i64 n)), (5, .d (I .i64 k))], bx := [], rw := [] })
    (fun k => k ≤ l.length ∧ n ∉ l.take k) (fun k => l.length - k) 0 ⟨by simp, by simp⟩ ?_ ?_
  · refine Wkn.of [] [] ?_
    simp (implicitDefEqProofs := false) (dsimp := false) only [List.set_cons_zero, List.set_cons_succ, Bool.and_self, Nat.reduceAdd, Nat.reduceSub, Nat.reduceMul, List.replicate, evK_go, reduceIte, Nat.reduceEqDiff, Nat.reduceLT, and_self, List.foldl_cons, List.foldl_nil, Int.cast_ofNat_Int, slots, wkL_nil, wkL_cons, wkB_nil, wkR_nil, wkV_j, wkV_d, frz_d, reduceCtorEq]
  · rintro k ⟨h1, h2⟩
    simp (implicitDefEqProofs := false) (dsimp := false) only [slots, ↓aw_cond, ↓aw_seq, ↓aw_reg, ↓Qseq_n, ↓ops_nil, ↓ops_cons, ↓eval_tmp, ↓put_some, ↓bK_b, ↓lenK_l, ↓binE_i, ↓bi_lss, ↓op_move, ↓op_bin, ↓op_len, ↓sl24, List.getD_cons_zero, List.getD_cons_succ, List.set_cons_zero, List.set_cons_succ, List.length_map, Nat.reduceAdd, Nat.reduceSub, Nat.reduceMul, List.replicate, evK_go, reduceIte, Nat.reduceEqDiff, Nat.reduceLT, List.foldl_cons, List.foldl_nil, Int.ofNat_lt]
    refine cdK_dec (fun h => ?_) (fun h => ?_)
    · simp (implicitDefEqProofs := false) (dsimp := false) only [h, ↓atK_H, ↓atH_map, ↓aw_cond, ↓aw_seq, ↓aw_block, ↓aw_skip, ↓aw_reg, ↓Qseq_n, ↓ops_nil, ↓ops_cons, ↓eval_tmp, ↓put_some, ↓bK_b, ↓iK_i, ↓binE_i, ↓bi_eql, ↓ldK_q, ↓iaK_l, ↓op_move, ↓op_load, ↓op_bin, ↓op_ia, ↓cells_c, ↓hd_cons, ↓ty3, ↓sl24, List.getD_cons_zero, List.getD_cons_succ, List.set_cons_zero, List.set_cons_succ, List.length_cons, List.length_nil, Bool.true_and, Nat.reduceAdd, Nat.reduceSub, Nat.reduceMul, Nat.zero_add, Int.toNat_natCast, evK_go, reduceIte, decide_true, Nat.reduceEqDiff, Nat.reduceLT, true_and, Int.zero_add, Int.natCast_nonneg]
      refine cdK_dec (fun hb => ?_) (fun hb => ?_)
      · have := place_at h h2 hb
        simp (implicitDefEqProofs := false) (dsimp := false) only [this, ↓aw_seq, ↓aw_ret, ↓aw_reg, ↓Qseq_n, ↓Qseq_r, ↓Qblk_r, ↓Qret_r, ↓ops_nil, ↓ops_cons, ↓eval_tmp, ↓put_some, ↓op_move, ↓op_assign, ↓td_d, ↓ret_1, List.getD_cons_zero, List.getD_cons_succ, List.set_cons_zero, List.set_cons_succ, Nat.reduceAdd, Nat.reduceSub, Nat.reduceMul, evK_go, reduceIte, Nat.reduceEqDiff, Nat.reduceLT]
      · simp (implicitDefEqProofs := false) (dsimp := false) only [↓aw_skip, ↓aw_reg, ↓Qseq_n, ↓Qblk_n, ↓ops_nil, ↓ops_cons, ↓eval_tmp, ↓eval_int, ↓put_some, ↓binE_i, ↓bi_add, ↓in_i64, ↓op_move, ↓op_assign, ↓op_bin, List.getD_cons_zero, List.getD_cons_succ, List.set_cons_zero, List.set_cons_succ, Nat.reduceAdd, Nat.reduceSub, Nat.reduceMul, evK_go, reduceIte, Nat.reduceEqDiff, Nat.reduceLT]
        refine ⟨by omega, k + 1, ⟨by omega, ?_⟩, by omega, ?_⟩
        · rw [take_succ_getD h, List.mem_append, List.mem_singleton]
          exact fun h' => h'.elim h2 (fun e => hb e.symm)
        · refine Wkn.of [] [] ?_
          simp (implicitDefEqProofs := false) (dsimp := false) only [List.set_cons_zero, List.set_cons_succ, Bool.and_self, Nat.reduceAdd, Nat.reduceSub, Nat.reduceMul, List.replicate, evK_go, reduceIte, Nat.reduceEqDiff, Nat.reduceLT, and_self, List.foldl_cons, List.foldl_nil, Int.cast_ofNat_Int, Int.natCast_add, slots, wkL_nil, wkL_cons, wkB_nil, wkR_nil, wkV_j, wkV_d, frz_d, reduceCtorEq]
    · obtain rfl : k = l.length := by omega
      rw [List.take_length] at h2
      have : place l n = -1 := if_neg h2
      simp (implicitDefEqProofs := false) (dsimp := false) only [this, ↓aw_seq, ↓aw_exit, ↓aw_ret, ↓aw_reg, ↓Qseq_n, ↓Qseq_x, ↓Qblk_x, ↓Qret_r, ↓ops_nil, ↓ops_cons, ↓eval_tmp, ↓eval_int, ↓put_some, ↓op_assign, ↓td_d, ↓ret_1, List.getD_cons_zero, List.getD_cons_succ, List.set_cons_zero, List.set_cons_succ, Nat.reduceAdd, Nat.reduceSub, Nat.reduceMul, evK_go, reduceIte, decide_false, Nat.reduceEqDiff, Nat.reduceLT, Nat.lt_irrefl]
theorem place_call (l : List Int) (n : Int) (pure : Bool) (σ : St) (dst : Option Tmp) (K : St → Prop) : CallH Tryd.prog 31 [.l (l.map (I .i64)), I .i64 n] pure σ dst (.mk : Hid K) = OrH ((l.length < 2 ^ 62) ∧ (pure || D.flat (I .i64 (place l n))) = true ∧ evK (σ.put dst (.d (I .i64 (place l n)))) (.mk : Hid K)) (.mk : Hid (CallH Tryd.prog 31 [.l (l.map (I .i64)), I .i64 n] pure σ dst (.mk : Hid K))) := CallH.eq (place_spec l n) pure σ dst K
theorem place_callQ (l : List Int) (n : Int) (pure : Bool) (C : V → Prop) : CallQ Tryd.prog 31 [.l (l.map (I .i64)), I .i64 n] pure (.mk : Hid C) = OrH ((l.length < 2 ^ 62) ∧ (pure || D.flat (I .i64 (place l n))) = true ∧ evK (V.d (I .i64 (place l n))) (.mk : Hid C)) (.mk : Hid (CallQ Tryd.prog 31 [.l (l.map (I .i64)), I .i64 n] pure (.mk : Hid C))) := CallQ.eq (place_spec l n) pure C
/-- How many are false. -/
def missN (l : List Bool) : Nat := l.countP fun b => !b
theorem miss_succ {l : List Bool} {k : Nat} (h : k < l.length) : missN (l.take (k + 1)) = missN (l.take k) + if l.getD k default then 0 else 1 := by
  rw [take_succ_getD h, missN, List.countP_append]
  cases l.getD k default <;> simp [missN]
theorem miss_le (l : List Bool) : missN l ≤ l.length := List.countP_le_length
theorem lines_spec (n : Int) (l : List (Int × Int)) (hpre : l.length < 2 ^ 62) : FnD Tryd.prog 20 [I .i64 n, .l (l.map lnD)] (I .i64 (chk n l)) := by
  refine FnD.go Tryd.func20 rfl rfl Tryd.results20 Tryd.ntmps20 ?_
  simp (implicitDefEqProofs := false) (dsimp := false) only [↓aw_seq, ↓aw_reg, ↓Qseq_n, ↓ops_nil, ↓ops_cons, ↓eval_tmp, ↓eval_int, ↓eval_func, ↓put_some, ↓op_move, ↓op_assign, ↓op_call, isD_d, ↓fnK_f, ↓call_H, ↓callK_H, ↓allT_nil, ↓allT_cons, ↓td_d, List.getD_cons_zero, List.getD_cons_succ, List.set_cons_zero, List.set_cons_succ, List.cons_append, List.nil_append, List.append_nil, List.map_cons, List.map_nil, List.length_cons, List.length_nil, List.all_cons, List.all_nil, Bool.and_self, Nat.reduceAdd, Nat.reduceSub, Nat.reduceMul, Nat.zero_add, List.replicate, evK_go, reduceIte, Nat.reduceEqDiff, Nat.reduceLT, and_self, Int.zero_add]
  simp (implicitDefEqProofs := false) (dsimp := false) only [in1_call, ↓cdK_not, ↓aw_cond, ↓Qseq_n, ↓ops_nil, ↓ops_cons, ↓eval_tmp, ↓put_some, ↓bK_b, ↓op_not, List.getD_cons_zero, List.getD_cons_succ, List.set_cons_zero, List.set_cons_succ, Bool.true_and, Bool.true_or, Nat.reduceAdd, Nat.reduceSub, Nat.reduceMul, evK_go, reduceIte, Nat.reduceEqDiff, Nat.reduceLT, true_and]
  refine OrH.l (OrH.l (cdK_split (fun hn => ?_) (fun hn => ?_)))
  rotate_left
  · simp (implicitDefEqProofs := false) (dsimp := false) only [chk, hn, ↓aw_seq, ↓aw_ret, ↓aw_reg, ↓Qseq_n, ↓Qseq_r, ↓Qret_r, ↓ops_nil, ↓ops_cons, ↓eval_tmp, ↓eval_int, ↓put_some, ↓op_assign, ↓td_d, ↓ret_1, List.getD_cons_zero, List.getD_cons_succ, List.set_cons_zero, List.set_cons_succ, Nat.reduceAdd, Nat.reduceSub, Nat.reduceMul, evK_go, reduceIte, Bool.not_false, Nat.reduceEqDiff, Nat.reduceLT]
  simp (implicitDefEqProofs := false) (dsimp := false) only [↓aw_cond, ↓aw_seq, ↓aw_skip, ↓aw_reg, ↓Qseq_n, ↓ops_nil, ↓ops_cons, ↓eval_tmp, ↓eval_int, ↓put_some, ↓bK_b, ↓lenK_l, ↓binE_i, ↓bi_gtr, ↓op_move, ↓op_bin, ↓op_len, ↓sl22, List.getD_cons_zero, List.getD_cons_succ, List.set_cons_zero, List.set_cons_succ, List.length_map, Nat.reduceAdd, Nat.reduceSub, Nat.reduceMul, evK_go, reduceIte, Nat.reduceEqDiff, Nat.reduceLT]
  refine cdK_dec (fun h24 => ?_) (fun h24 => ?_)
  · have h24' : 24 < l.length := by omega
    simp (implicitDefEqProofs := false) (dsimp := false) only [chk, hn, h24', Bool.true_eq_false, ↓aw_seq, ↓aw_ret, ↓aw_reg, ↓Qseq_n, ↓Qseq_r, ↓Qret_r, ↓ops_nil, ↓ops_cons, ↓eval_tmp, ↓eval_int, ↓put_some, ↓op_assign, ↓td_d, ↓ret_1, List.getD_cons_zero, List.getD_cons_succ, List.set_cons_zero, List.set_cons_succ, Nat.reduceAdd, Nat.reduceSub, Nat.reduceMul, evK_go, reduceIte, Bool.not_true, Nat.reduceEqDiff, Nat.reduceLT]
  have h24' : ¬ 24 < l.length := by omega
  have hc : chk n l = firstErr (lineErr n) l := by simp [chk, hn, h24']
  rw [hc]
  simp (implicitDefEqProofs := false) (dsimp := false) only [↓aw_seq, ↓aw_block, ↓aw_skip, ↓aw_loop, ↓aw_reg, ↓Qseq_n, ↓ops_nil, ↓ops_cons, ↓eval_int, ↓put_some, ↓op_assign, List.set_cons_zero, List.set_cons_succ, Nat.reduceAdd, Nat.reduceSub, Nat.reduceMul, evK_go, reduceIte, Nat.reduceEqDiff, Nat.reduceLT]
  have hn' : 1 ≤ n ∧ n ≤ 8 := by simpa [inB] using hn
  refine loopW (fun k : Nat => { tm := slots 49 [(0, .d (I .i64 n)), (1, .d (.l (l.map lnD))), (5, .d (I .i64 k))], bx := [], rw := [] })
    (fun k => k ≤ l.length ∧ firstErr (lineErr n) (l.take k) = 0) (fun k => l.length - k) 0 ⟨by simp, by simp [firstErr]⟩ ?_ ?_
  · refine Wkn.of [] [] ?_
    simp (implicitDefEqProofs := false) (dsimp := false) only [List.set_cons_zero, List.set_cons_succ, Bool.and_self, Nat.reduceAdd, Nat.reduceSub, Nat.reduceMul, List.replicate, evK_go, reduceIte, Nat.reduceEqDiff, Nat.reduceLT, and_self, List.foldl_cons, List.foldl_nil, Int.cast_ofNat_Int, slots, wkL_nil, wkL_cons, wkB_nil, wkR_nil, wkV_j, wkV_d, frz_d, reduceCtorEq]
  · rintro k ⟨h1, h2⟩
    simp (implicitDefEqProofs := false) (dsimp := false) only [slots, ↓aw_cond, ↓aw_seq, ↓aw_reg, ↓Qseq_n, ↓ops_nil, ↓ops_cons, ↓eval_tmp, ↓put_some, ↓bK_b, ↓lenK_l, ↓binE_i, ↓bi_lss, ↓op_move, ↓op_bin, ↓op_len, ↓sl22, List.getD_cons_zero, List.getD_cons_succ, List.set_cons_zero, List.set_cons_succ, List.length_map, Nat.reduceAdd, Nat.reduceSub, Nat.reduceMul, List.replicate, evK_go, reduceIte, Nat.reduceEqDiff, Nat.reduceLT, List.foldl_cons, List.foldl_nil, Int.ofNat_lt]
    refine cdK_dec (fun h => ?_) (fun h => ?_)
    · obtain ⟨g1, g2⟩ := firstErr_take h h2
      simp (implicitDefEqProofs := false) (dsimp := false) only [h, lnD, in1_call, ↓cdK_not, ↓gdK_f, ↓gval_mk, ↓gvL_zero, ↓gvL_succ, ↓atK_H, ↓atH_map, ↓aw_seq, ↓aw_block, ↓aw_skip, ↓aw_reg, ↓Qseq_n, ↓ops_cons, ↓ops_guard, ↓eval_tmp, ↓eval_int, ↓eval_func, ↓put_some, ↓bK_b, ↓iK_i, ↓binE_i, ↓bi_sub, ↓in_i64, ↓ldK_q, ↓faK_q, ↓iaK_l, ↓op_move, ↓op_load, ↓op_bin, ↓op_not, ↓op_fa, ↓op_ia, ↓op_call, isD_d, ↓fnK_f, ↓call_H, ↓callK_H, ↓allT_nil, ↓allT_cons, ↓td_d, ↓st_tm, ↓cells_s, ↓hd_cons, ↓ty3, ↓sl22, ↓ty41, ↓fd41_0, List.getD_cons_zero, List.getD_cons_succ, List.set_cons_zero, List.set_cons_succ, List.append_nil, List.length_cons, List.length_nil, List.all_cons, List.all_nil, Bool.true_and, Bool.and_self, Bool.true_or, Nat.reduceAdd, Nat.reduceSub, Nat.reduceMul, Nat.zero_add, Int.toNat_natCast, evK_go, reduceIte, decide_true, Nat.reduceEqDiff, Nat.reduceLT, and_self, true_and, Int.zero_add, List.drop_zero, Int.natCast_nonneg]
      refine ⟨by omega, OrH.l (OrH.l (cdK_split (fun ha => ?_) (fun ha => ?_)))⟩
      rotate_left
      · have e : lineErr n (l.getD k default) = 1 := by simp (implicitDefEqProofs := false) (dsimp := false) only [lineErr, ha, Bool.false_and, reduceIte]
        rw [g2 (by rw [e]; decide), e]
        simp (implicitDefEqProofs := false) (dsimp := false) only [ha, ↓cdK_true, ↓gdK_f, ↓gval_mk, ↓gvL_zero, ↓gvL_succ, ↓aw_cond, ↓aw_seq, ↓aw_ret, ↓aw_reg, ↓Qseq_n, ↓Qseq_r, ↓Qblk_r, ↓Qret_r, ↓ops_nil, ↓ops_cons, ↓ops_guard, ↓eval_tmp, ↓eval_int, ↓eval_bool, ↓put_some, ↓bK_b, ↓op_assign, ↓op_pick, ↓td_d, ↓ret_1, ↓st_tm, List.getD_cons_zero, List.getD_cons_succ, List.set_cons_zero, List.set_cons_succ, Nat.reduceAdd, Nat.reduceSub, Nat.reduceMul, evK_go, reduceIte, Bool.not_false, Nat.reduceEqDiff, Nat.reduceLT]
      simp (implicitDefEqProofs := false) (dsimp := false) only [ha, h, lnD, in1_call, ↓cdK_false, ↓cdK_not, ↓gdK_f, ↓gval_mk, ↓gvL_zero, ↓gvL_succ, ↓atK_H, ↓atH_map, ↓aw_cond, ↓Qseq_n, ↓ops_nil, ↓ops_cons, ↓ops_guard, ↓eval_tmp, ↓eval_int, ↓eval_func, ↓put_some, ↓bK_b, ↓iK_i, ↓binE_i, ↓bi_sub, ↓in_i64, ↓ldK_q, ↓faK_q, ↓iaK_l, ↓op_move, ↓op_pick, ↓op_load, ↓op_bin, ↓op_not, ↓op_fa, ↓op_ia, ↓op_call, isD_d, ↓fnK_f, ↓call_H, ↓callK_H, ↓allT_nil, ↓allT_cons, ↓td_d, ↓st_tm, ↓cells_s, ↓hd_cons, ↓ty3, ↓sl22, ↓ty41, ↓fd41_1, List.getD_cons_zero, List.getD_cons_succ, List.set_cons_zero, List.set_cons_succ, List.append_nil, List.length_cons, List.length_nil, List.all_cons, List.all_nil, Bool.true_and, Bool.and_self, Bool.true_or, Nat.reduceAdd, Nat.reduceSub, Nat.reduceMul, Nat.zero_add, Int.toNat_natCast, evK_go, reduceIte, Bool.not_true, Nat.reduceEqDiff, Nat.reduceLT, and_self, true_and, Int.zero_add, List.drop_zero, List.drop_succ_cons, Int.natCast_nonneg]
      refine ⟨by omega, OrH.l (OrH.l (cdK_split (fun hb => ?_) (fun hb => ?_)))⟩
      · simp (implicitDefEqProofs := false) (dsimp := false) only [hb, h, lnD, ↓atK_H, ↓atH_map, ↓aw_cond, ↓aw_seq, ↓aw_skip, ↓aw_draw, ↓Qseq_n, ↓eval_tmp, ↓put_some, ↓bK_b, ↓iK_i, ↓ev_move, ↓ev_load, ↓ev_bin, ↓ev_fa, ↓ev_ia, ↓binE_i, ↓bi_eql, ↓ldK_q, ↓faK_q, ↓iaK_l, ↓draw_H, ↓h_nil, ↓h_cons, ↓ldH_n, ↓q_move, ↓q_load, ↓q_bin, ↓q_fa, ↓q_ia, ↓il_move, ↓il_load, ↓il_bin, ↓il_fa, ↓il_ia, ↓cells_s, ↓hd_cons, ↓ty3, ↓sl22, ↓ty41, ↓fd41_0, ↓fd41_1, List.getD_cons_zero, List.getD_cons_succ, List.set_cons_zero, List.set_cons_succ, List.length_cons, List.length_nil, Bool.true_and, Nat.reduceAdd, Nat.reduceSub, Nat.reduceMul, Nat.zero_add, Int.toNat_natCast, evK_go, reduceIte, Bool.not_true, Nat.reduceEqDiff, Nat.reduceLT, true_and, Int.zero_add, List.drop_zero, List.drop_succ_cons, Int.natCast_nonneg]
        refine OrH.l ⟨DrawH.of follows_mixed (by kernel_rfl), cdK_dec (fun he => ?_) (fun he => ?_)⟩
        · have e : lineErr n (l.getD k default) = 3 := by unfold lineErr; rw [ha, hb, if_neg (by decide), if_pos he]
          rw [g2 (by rw [e]; decide), e]
          simp (implicitDefEqProofs := false) (dsimp := false) only [↓aw_seq, ↓aw_ret, ↓aw_reg, ↓Qseq_n, ↓Qseq_r, ↓Qblk_r, ↓Qret_r, ↓ops_nil, ↓ops_cons, ↓eval_tmp, ↓eval_int, ↓put_some, ↓op_assign, ↓td_d, ↓ret_1, List.getD_cons_zero, List.getD_cons_succ, List.set_cons_zero, List.set_cons_succ, Nat.reduceAdd, Nat.reduceSub, Nat.reduceMul, evK_go, reduceIte, Nat.reduceEqDiff, Nat.reduceLT]
        · have e : lineErr n (l.getD k default) = 0 := by simp (implicitDefEqProofs := false) (dsimp := false) only [lineErr, ha, hb, he, Bool.and_self, reduceIte, Bool.true_eq_false]
          simp (implicitDefEqProofs := false) (dsimp := false) only [↓aw_skip, ↓aw_reg, ↓Qseq_n, ↓Qblk_n, ↓ops_nil, ↓ops_cons, ↓eval_tmp, ↓eval_int, ↓put_some, ↓binE_i, ↓bi_add, ↓in_i64, ↓op_move, ↓op_assign, ↓op_bin, List.getD_cons_zero, List.getD_cons_succ, List.set_cons_zero, List.set_cons_succ, Nat.reduceAdd, Nat.reduceSub, Nat.reduceMul, evK_go, reduceIte, Nat.reduceEqDiff, Nat.reduceLT]
          refine ⟨by omega, k + 1, ⟨by omega, g1 e⟩, by omega, ?_⟩
          refine Wkn.of [] [] ?_
          simp (implicitDefEqProofs := false) (dsimp := false) only [List.set_cons_zero, List.set_cons_succ, Bool.and_self, Nat.reduceAdd, Nat.reduceSub, Nat.reduceMul, List.replicate, evK_go, reduceIte, Nat.reduceEqDiff, Nat.reduceLT, and_self, List.foldl_cons, List.foldl_nil, Int.cast_ofNat_Int, Int.natCast_add, slots, wkL_nil, wkL_cons, wkB_nil, wkR_nil, wkV_j, wkV_d, frz_d, reduceCtorEq]
      · have e : lineErr n (l.getD k default) = 1 := by simp (implicitDefEqProofs := false) (dsimp := false) only [lineErr, hb, Bool.and_false, reduceIte]
        rw [g2 (by rw [e]; decide), e]
        simp (implicitDefEqProofs := false) (dsimp := false) only [hb, ↓aw_seq, ↓aw_ret, ↓aw_reg, ↓Qseq_n, ↓Qseq_r, ↓Qblk_r, ↓Qret_r, ↓ops_nil, ↓ops_cons, ↓eval_tmp, ↓eval_int, ↓put_some, ↓op_assign, ↓td_d, ↓ret_1, List.getD_cons_zero, List.getD_cons_succ, List.set_cons_zero, List.set_cons_succ, Nat.reduceAdd, Nat.reduceSub, Nat.reduceMul, evK_go, reduceIte, Bool.not_false, Nat.reduceEqDiff, Nat.reduceLT]
    · obtain rfl : k = l.length := by omega
      rw [List.take_length] at h2
      simp (implicitDefEqProofs := false) (dsimp := false) only [h2, ↓aw_seq, ↓aw_exit, ↓aw_ret, ↓aw_reg, ↓Qseq_n, ↓Qseq_x, ↓Qblk_x, ↓Qret_r, ↓ops_nil, ↓ops_cons, ↓eval_tmp, ↓eval_int, ↓put_some, ↓op_assign, ↓td_d, ↓ret_1, List.getD_cons_zero, List.getD_cons_succ, List.set_cons_zero, List.set_cons_succ, Nat.reduceAdd, Nat.reduceSub, Nat.reduceMul, evK_go, reduceIte, decide_false, Nat.reduceEqDiff, Nat.reduceLT, Nat.lt_irrefl]
theorem lines_call (n : Int) (l : List (Int × Int)) (pure : Bool) (σ : St) (dst : Option Tmp) (K : St → Prop) : CallH Tryd.prog 20 [I .i64 n, .l (l.map lnD)] pure σ dst (.mk : Hid K) = OrH ((l.length < 2 ^ 62) ∧ (pure || D.flat (I .i64 (chk n l))) = true ∧ evK (σ.put dst (.d (I .i64 (chk n l)))) (.mk : Hid K)) (.mk : Hid (CallH Tryd.prog 20 [I .i64 n, .l (l.map lnD)] pure σ dst (.mk : Hid K))) := CallH.eq (lines_spec n l) pure σ dst K
theorem lines_callQ (n : Int) (l : List (Int × Int)) (pure : Bool) (C : V → Prop) : CallQ Tryd.prog 20 [I .i64 n, .l (l.map lnD)] pure (.mk : Hid C) = OrH ((l.length < 2 ^ 62) ∧ (pure || D.flat (I .i64 (chk n l))) = true ∧ evK (V.d (I .i64 (chk n l))) (.mk : Hid C)) (.mk : Hid (CallQ Tryd.prog 20 [I .i64 n, .l (l.map lnD)] pure (.mk : Hid C))) := CallQ.eq (lines_spec n l) pure C
end Go.Proofs

namespace Go.Proofs
open Go.Aw
set_option linter.unusedSimpArgs false
set_option maxRecDepth 10000
theorem riseK_len (l : List Int) (k : Nat) (hk : k ≤ l.length) : (riseK l k).1.length = l.length ∧ (riseK l k).2.length = k := by
  obtain ⟨ps, h⟩ := riseK_spec l k hk
  exact ⟨h.len, by rw [h.out, List.length_map, h.ps_len]⟩
theorem rise_spec (l : List Int) (hpre : l.length ≤ 1000) : FnR Tryd.prog 33 [.l (l.map (I .i64))] 1 ((rising l).map (I .i64)) := by
  refine FnR.go Tryd.func33 rfl rfl Tryd.results33 Tryd.ntmps33 ?_
  simp (implicitDefEqProofs := false) (dsimp := false) only [↓aw_seq, ↓aw_block, ↓aw_loop, ↓aw_reg, ↓Qseq_n, ↓ops_nil, ↓ops_cons, ↓eval_tmp, ↓eval_int, ↓eval_nil, ↓put_some, ↓iK_i, ↓dK_d, ↓lenK_l, ↓op_move, ↓op_assign, ↓op_len, ↓op_make, ↓addRow_mk, ↓st_rw, ↓cells_c, ↓one_b, constV_b, ↓mk_, ↓vsz_bool, ↓ty4, ↓zb4, ↓sl24, ↓sl46, List.getD_cons_zero, List.getD_cons_succ, List.set_cons_zero, List.set_cons_succ, List.cons_append, List.nil_append, List.map_cons, List.map_nil, List.length_cons, List.length_nil, List.length_map, List.all_cons, List.all_nil, Bool.and_true, Bool.true_and, Bool.and_self, Nat.reduceAdd, Nat.reduceSub, Nat.reduceMul, Nat.zero_add, Int.toNat_natCast, List.replicate, evK_go, reduceIte, Nat.reduceEqDiff, Nat.reduceLT, and_self, true_and, and_true, Int.zero_add, Int.natCast_nonneg]
  refine ⟨⟨by omega, by decide⟩, ?_⟩
  refine loopW (fun k : Nat => { tm := slots 55 [(0, .d (.l (l.map (I .i64)))), (3, .o 1 0 k), (4, .o 0 0 l.length), (5, .d (I .i64 k))], bx := [], rw := [some ⟨1, (riseK l k).1.map Bo⟩, some ⟨1, (riseK l k).2.map (I .i64)⟩] })
    (fun k => k ≤ l.length) (fun k => l.length - k) 0 (by simp) ?_ ?_
  · refine Wkn.of [] [some 0, none] ?_
    simp (implicitDefEqProofs := false) (dsimp := false) only [riseK, List.map_replicate, ↓row_xs, List.getD_cons_zero, List.set_cons_zero, List.set_cons_succ, List.map_nil, Bool.and_self, Nat.reduceAdd, Nat.reduceSub, Nat.reduceMul, List.replicate, evK_go, reduceIte, Nat.reduceEqDiff, Nat.reduceLT, and_self, List.foldl_cons, List.foldl_nil, Int.cast_ofNat_Int, slots, wkL_nil, wkL_cons, wkB_nil, wkR_nil, wkR_some, wkR_new, wkV_j, wkV_d, nlK_nl, wkV_o, frz_d, oK_zs, oK_zn, oK_s, reduceCtorEq]
  · intro k hk
    simp (implicitDefEqProofs := false) (dsimp := false) only [slots, ↓aw_cond, ↓aw_seq, ↓aw_reg, ↓Qseq_n, ↓ops_nil, ↓ops_cons, ↓eval_tmp, ↓put_some, ↓bK_b, ↓lenK_l, ↓binE_i, ↓bi_lss, ↓op_move, ↓op_bin, ↓op_len, ↓sl24, List.getD_cons_zero, List.getD_cons_succ, List.set_cons_zero, List.set_cons_succ, List.length_map, Nat.reduceAdd, Nat.reduceSub, Nat.reduceMul, List.replicate, evK_go, reduceIte, Nat.reduceEqDiff, Nat.reduceLT, List.foldl_cons, List.foldl_nil, Int.ofNat_lt]
    refine cdK_dec (fun h => ?_) (fun h => ?_)
    · obtain ⟨hl1, hl2⟩ := riseK_len l k hk
      obtain ⟨x, hx1, hx2, _⟩ := riseM_lt l h
      have hK : riseK l (k + 1) = ((riseK l k).1.set x true, (riseK l k).2 ++ [l.getD x default]) := by
        show riseS l (riseK l k) = _
        unfold riseS
        rw [hx1, Int.toNat_natCast]
      generalize hU : (riseK l k).1 = used at *
      generalize hO : (riseK l k).2 = out at *
      simp (implicitDefEqProofs := false) (dsimp := false) only [↓aw_seq, ↓aw_block, ↓aw_skip, ↓aw_loop, ↓aw_reg, ↓Qseq_n, ↓ops_nil, ↓ops_cons, ↓eval_int, ↓put_some, ↓op_assign, List.set_cons_zero, List.set_cons_succ, Nat.reduceAdd, Nat.reduceSub, Nat.reduceMul, evK_go, reduceIte, Nat.reduceEqDiff, Nat.reduceLT]
      refine loopW (fun i : Nat => { tm := slots 55 [(0, .d (.l (l.map (I .i64)))), (3, .o 1 0 k), (4, .o 0 0 l.length), (5, .d (I .i64 k)), (6, .d (I .i64 ((List.range i).foldl (riseB l used) (-1)))), (7, .d (I .i64 i))], bx := [], rw := [some ⟨1, used.map Bo⟩, some ⟨1, out.map (I .i64)⟩] })
        (fun i => i ≤ l.length) (fun i => l.length - i) 0 (by simp) ?_ ?_
      · refine Wkn.of [] [some 0, some 1] ?_
        simp (implicitDefEqProofs := false) (dsimp := false) only [List.range_zero, List.getD_cons_zero, List.getD_cons_succ, List.set_cons_zero, List.set_cons_succ, Bool.and_self, Nat.reduceAdd, Nat.reduceSub, Nat.reduceMul, List.replicate, evK_go, reduceIte, Nat.reduceEqDiff, Nat.reduceLT, and_self, List.foldl_cons, List.foldl_nil, Int.cast_ofNat_Int, slots, wkL_nil, wkL_cons, wkB_nil, wkR_nil, wkR_some, wkV_j, wkV_d, wkV_o, frz_d, oK_zs, oK_s, reduceCtorEq]
      · intro i hi
        simp (implicitDefEqProofs := false) (dsimp := false) only [slots, ↓aw_cond, ↓aw_seq, ↓aw_reg, ↓Qseq_n, ↓ops_nil, ↓ops_cons, ↓eval_tmp, ↓put_some, ↓bK_b, ↓lenK_l, ↓binE_i, ↓bi_lss, ↓op_move, ↓op_bin, ↓op_len, ↓sl24, List.getD_cons_zero, List.getD_cons_succ, List.set_cons_zero, List.set_cons_succ, List.length_map, Nat.reduceAdd, Nat.reduceSub, Nat.reduceMul, List.replicate, evK_go, reduceIte, Nat.reduceEqDiff, Nat.reduceLT, List.foldl_cons, List.foldl_nil, Int.ofNat_lt]
        refine cdK_dec (fun h1 => ?_) (fun h1 => ?_)
        · have hst : (List.range (i + 1)).foldl (riseB l used) (-1) = riseB l used ((List.range i).foldl (riseB l used) (-1)) i := by rw [List.range_succ, List.foldl_append]; rfl
          have hsp := riseB_spec l used i hi
          have hiu : i < used.length := by omega
          generalize (List.range i).foldl (riseB l used) (-1) = b at hst hsp ⊢
          simp (implicitDefEqProofs := false) (dsimp := false) only [hiu, h1, ↓cdK_not, ↓gdK_t, ↓gval_mk, ↓gvL_zero, ↓gvL_succ, ↓optK_some, ↓rwK_mk_, ↓atK_H, ↓atH_map, ↓nthK_H, ↓nthH_zero, ↓aw_seq, ↓aw_block, ↓aw_skip, ↓aw_draw, ↓Qseq_n, ↓eval_tmp, ↓put_some, ↓bK_b, ↓iK_i, ↓ev_move, ↓ev_load, ↓ev_not, ↓ev_ia, ↓ldK_e, ↓iaK_o, ↓draw_H, ↓h_cons, ↓ldH_n, ↓ldH_g, ↓q_move, ↓q_load, ↓q_un, ↓q_ia, ↓il_move, ↓il_load, ↓il_un, ↓il_ia, ↓st_tm, ↓row_sz, ↓row_xs, ↓cells_c, ↓ty4, ↓sl46, List.getD_cons_zero, List.getD_cons_succ, List.set_cons_zero, List.set_cons_succ, Bool.true_and, Bool.and_self, Nat.reduceAdd, Nat.reduceSub, Nat.reduceMul, Nat.zero_add, Int.toNat_natCast, evK_go, reduceIte, decide_true, Nat.reduceEqDiff, Nat.reduceLT, and_self, true_and, Int.zero_add, Int.ofNat_lt, Int.natCast_nonneg]
          refine OrH.l ⟨DrawH.of follows_mixed (by kernel_rfl), ?_⟩
          cases hb : used.getD i default with
          | true =>
            have e : riseB l used b i = b := if_neg (by rw [hb]; simp)
            rw [e] at hst
            simp (implicitDefEqProofs := false) (dsimp := false) only [↓cdK_true, ↓cdK_false, ↓gdK_junk, ↓gdK_t, ↓gval_mk, ↓gvL_zero, ↓gvL_succ, ↓aw_cond, ↓aw_skip, ↓aw_reg, ↓Qseq_n, ↓Qblk_n, ↓ops_nil, ↓ops_cons, ↓eval_tmp, ↓eval_int, ↓eval_bool, ↓put_some, ↓bK_b, ↓ev_pick, ↓binE_i, ↓bi_add, ↓in_i64, ↓op_move, ↓op_assign, ↓op_bin, ↓h_nil, ↓h_cons, ↓ldH_n, ↓ldH_g, ↓q_pick, ↓il_move, ↓il_pick, ↓il_load, ↓il_bin, ↓il_ia, ↓st_tm, List.getD_cons_zero, List.getD_cons_succ, List.set_cons_zero, List.set_cons_succ, Nat.reduceAdd, Nat.reduceSub, Nat.reduceMul, evK_go, reduceIte, Bool.not_true, Nat.reduceEqDiff, Nat.reduceLT]
            refine ⟨by omega, i + 1, by omega, by omega, ?_⟩
            refine Wkn.of [] [some 0, some 1] ?_
            simp (implicitDefEqProofs := false) (dsimp := false) only [hst, List.getD_cons_zero, List.getD_cons_succ, List.set_cons_zero, List.set_cons_succ, Bool.and_self, Nat.reduceAdd, Nat.reduceSub, Nat.reduceMul, List.replicate, evK_go, reduceIte, Nat.reduceEqDiff, Nat.reduceLT, and_self, List.foldl_cons, List.foldl_nil, Int.cast_ofNat_Int, Int.natCast_add, slots, wkL_nil, wkL_cons, wkB_nil, wkR_nil, wkR_some, wkV_j, wkV_d, wkV_o, frz_d, oK_zs, oK_s, reduceCtorEq]
          | false =>
            rcases hsp with ⟨rfl, _⟩ | ⟨y, rfl, hy, _⟩
            · have e : riseB l used (-1) i = (i : Int) := if_pos ⟨hb, .inl (by decide)⟩
              rw [e] at hst
              have hd : decide ((-1 : Int) < 0) = true := rfl
              simp (implicitDefEqProofs := false) (dsimp := false) only [hd, ↓cdK_true, ↓cdK_false, ↓gdK_t, ↓gdK_f, ↓gval_mk, ↓gvL_zero, ↓gvL_succ, ↓aw_cond, ↓aw_reg, ↓Qseq_n, ↓Qblk_n, ↓ops_nil, ↓ops_cons, ↓eval_tmp, ↓eval_int, ↓eval_bool, ↓put_some, ↓bK_b, ↓ev_move, ↓ev_pick, ↓ev_bin, ↓binE_i, ↓bi_add, ↓bi_lss, ↓in_i64, ↓op_move, ↓op_assign, ↓op_bin, ↓h_nil, ↓h_cons, ↓ldH_n, ↓ldH_g, ↓q_move, ↓q_pick, ↓q_bin, ↓il_move, ↓il_pick, ↓il_load, ↓il_bin, ↓il_ia, ↓st_tm, List.getD_cons_zero, List.getD_cons_succ, List.set_cons_zero, List.set_cons_succ, Nat.reduceAdd, Nat.reduceSub, Nat.reduceMul, evK_go, reduceIte, Bool.not_false, Nat.reduceEqDiff, Nat.reduceLT]
              refine ⟨by omega, i + 1, by omega, by omega, ?_⟩
              refine Wkn.of [] [some 0, some 1] ?_
              simp (implicitDefEqProofs := false) (dsimp := false) only [hst, List.getD_cons_zero, List.getD_cons_succ, List.set_cons_zero, List.set_cons_succ, Bool.and_self, Nat.reduceAdd, Nat.reduceSub, Nat.reduceMul, List.replicate, evK_go, reduceIte, Nat.reduceEqDiff, Nat.reduceLT, and_self, List.foldl_cons, List.foldl_nil, Int.cast_ofNat_Int, Int.natCast_add, slots, wkL_nil, wkL_cons, wkB_nil, wkR_nil, wkR_some, wkV_j, wkV_d, wkV_o, frz_d, oK_zs, oK_s, reduceCtorEq]
            · have hd : decide ((y : Int) < 0) = false := by rw [decide_eq_false_iff_not]; omega
              have hyl : y < l.length := by omega
              simp (implicitDefEqProofs := false) (dsimp := false) only [hd, h1, hyl, ↓cdK_true, ↓cdK_false, ↓gdK_t, ↓gdK_f, ↓gval_mk, ↓gvL_zero, ↓gvL_succ, ↓atK_H, ↓atH_map, ↓aw_cond, ↓Qseq_n, ↓eval_tmp, ↓eval_int, ↓put_some, ↓bK_b, ↓iK_i, ↓ev_move, ↓ev_pick, ↓ev_load, ↓ev_bin, ↓ev_ia, ↓binE_i, ↓bi_lss, ↓ldK_q, ↓iaK_l, ↓h_nil, ↓h_cons, ↓ldH_n, ↓ldH_g, ↓q_move, ↓q_pick, ↓q_load, ↓q_bin, ↓q_ia, ↓il_move, ↓il_pick, ↓il_load, ↓il_bin, ↓il_ia, ↓st_tm, ↓cells_c, ↓hd_cons, ↓ty3, ↓sl24, List.getD_cons_zero, List.getD_cons_succ, List.set_cons_zero, List.set_cons_succ, List.length_cons, List.length_nil, Bool.true_and, Nat.reduceAdd, Nat.reduceSub, Nat.reduceMul, Nat.zero_add, Int.toNat_natCast, evK_go, reduceIte, Bool.not_false, Nat.reduceEqDiff, Nat.reduceLT, true_and, Int.zero_add, Int.natCast_nonneg]
              refine cdK_dec (fun h2 => ?_) (fun h2 => ?_)
              · have e : riseB l used (y : Int) i = (i : Int) := if_pos ⟨hb, .inr (by rw [Int.toNat_natCast]; exact h2)⟩
                rw [e] at hst
                have hd2 : decide (l.getD i default < l.getD y default) = true := decide_eq_true h2
                simp (implicitDefEqProofs := false) (dsimp := false) only [hd2, ↓aw_reg, ↓Qseq_n, ↓Qblk_n, ↓ops_nil, ↓ops_cons, ↓eval_tmp, ↓eval_int, ↓put_some, ↓binE_i, ↓bi_add, ↓in_i64, ↓op_move, ↓op_assign, ↓op_bin, List.getD_cons_zero, List.getD_cons_succ, List.set_cons_zero, List.set_cons_succ, Nat.reduceAdd, Nat.reduceSub, Nat.reduceMul, evK_go, reduceIte, Nat.reduceEqDiff, Nat.reduceLT]
                refine ⟨by omega, i + 1, by omega, by omega, ?_⟩
                refine Wkn.of [] [some 0, some 1] ?_
                simp (implicitDefEqProofs := false) (dsimp := false) only [hst, List.getD_cons_zero, List.getD_cons_succ, List.set_cons_zero, List.set_cons_succ, Bool.and_self, Nat.reduceAdd, Nat.reduceSub, Nat.reduceMul, List.replicate, evK_go, reduceIte, Nat.reduceEqDiff, Nat.reduceLT, and_self, List.foldl_cons, List.foldl_nil, Int.cast_ofNat_Int, Int.natCast_add, slots, wkL_nil, wkL_cons, wkB_nil, wkR_nil, wkR_some, wkV_j, wkV_d, wkV_o, frz_d, oK_zs, oK_s, reduceCtorEq]
              · have e : riseB l used (y : Int) i = (y : Int) := if_neg (by rw [Int.toNat_natCast]; rintro ⟨_, h3 | h3⟩ <;> omega)
                rw [e] at hst
                have hd2 : decide (l.getD i default < l.getD y default) = false := decide_eq_false h2
                simp (implicitDefEqProofs := false) (dsimp := false) only [hd2, ↓aw_skip, ↓aw_reg, ↓Qseq_n, ↓Qblk_n, ↓ops_nil, ↓ops_cons, ↓eval_tmp, ↓eval_int, ↓put_some, ↓binE_i, ↓bi_add, ↓in_i64, ↓op_move, ↓op_assign, ↓op_bin, List.getD_cons_zero, List.getD_cons_succ, List.set_cons_zero, List.set_cons_succ, Nat.reduceAdd, Nat.reduceSub, Nat.reduceMul, evK_go, reduceIte, Nat.reduceEqDiff, Nat.reduceLT]
                refine ⟨by omega, i + 1, by omega, by omega, ?_⟩
                refine Wkn.of [] [some 0, some 1] ?_
                simp (implicitDefEqProofs := false) (dsimp := false) only [hst, List.getD_cons_zero, List.getD_cons_succ, List.set_cons_zero, List.set_cons_succ, Bool.and_self, Nat.reduceAdd, Nat.reduceSub, Nat.reduceMul, List.replicate, evK_go, reduceIte, Nat.reduceEqDiff, Nat.reduceLT, and_self, List.foldl_cons, List.foldl_nil, Int.cast_ofNat_Int, Int.natCast_add, slots, wkL_nil, wkL_cons, wkB_nil, wkR_nil, wkR_some, wkV_j, wkV_d, wkV_o, frz_d, oK_zs, oK_s, reduceCtorEq]
        · obtain rfl : i = l.length := by omega
          have hx1' : (List.range l.length).foldl (riseB l used) (-1) = (x : Int) := hx1
          have hxu : x < used.length := by omega
          simp (implicitDefEqProofs := false) (dsimp := false) only [hx1', hx2, ↓optK_some, ↓rwK_mk_, ↓atK_H, ↓atH_map, ↓aw_seq, ↓aw_exit, ↓aw_ret, ↓aw_reg, ↓Qseq_n, ↓Qseq_x, ↓Qblk_n, ↓Qblk_x, ↓ops_nil, ↓ops_cons, ↓eval_tmp, ↓eval_int, ↓eval_bool, ↓put_some, ↓put_none, ↓iK_i, ↓dK_d, ↓binE_i, ↓bi_add, ↓in_i64, ↓ldK_q, ↓iaK_l, ↓iaK_o, ↓op_move, ↓op_assign, ↓op_load, ↓op_bin, ↓op_ia, ↓op_append, ↓op_store, ↓allD_nil, ↓allD_cons, ↓setRow_mk, ↓app_mk, ↓row_sz, ↓row_xs, kill_d, kill_j, kill_o, kill_e, ↓cells_c, ↓one_i, ↓one_b, ↓st_e, ↓ap_, ↓ap_o, ↓src_l, ↓bs_, ↓op_bs, ↓bsL_f, ↓stored_mk, ↓sl_nil, ↓sl_cons, ↓sT_move, ↓sT_assign, ↓sT_load, ↓sT_ia, ↓sT_bs, ↓sT_call, ↓vsz_int, ↓inO_1, ↓fm_nil, ↓fm_cons, ↓hd_cons, ↓Qrow_r, ↓rowK_o, ↓ty3, ↓zb3, ↓ty4, ↓sl24, ↓sl46, List.getD_cons_zero, List.getD_cons_succ, List.set_cons_zero, List.set_cons_succ, List.map_cons, List.map_nil, List.length_cons, List.length_nil, List.length_map, List.all_cons, List.all_nil, Bool.true_and, Bool.and_self, Bool.or_false, Nat.reduceAdd, Nat.reduceSub, Nat.reduceMul, Nat.zero_add, Int.toNat_natCast, evK_go, reduceIte, decide_false, Nat.reduceEqDiff, Nat.reduceLT, and_self, true_and, Nat.lt_irrefl, Int.zero_add, List.drop_zero, Int.ofNat_lt, Int.natCast_nonneg]
          refine ⟨by decide, ⟨fun _ => trivial, by omega, by omega, by omega⟩, by omega, k + 1, by omega, by omega, ?_⟩
          refine Wkn.of [] [some 0, some 1] ?_
          simp (implicitDefEqProofs := false) (dsimp := false) only [hK, List.map_append, List.map_set, List.getD_cons_zero, List.getD_cons_succ, List.set_cons_zero, List.set_cons_succ, List.map_cons, List.map_nil, Bool.and_self, Nat.reduceAdd, Nat.reduceSub, Nat.reduceMul, List.replicate, evK_go, reduceIte, Nat.reduceEqDiff, Nat.reduceLT, and_self, List.foldl_cons, List.foldl_nil, Int.cast_ofNat_Int, Int.natCast_add, slots, wkL_nil, wkL_cons, wkB_nil, wkR_nil, wkR_some, wkV_j, wkV_d, wkV_o, frz_d, oK_zs, oK_s, reduceCtorEq]
    · obtain rfl : k = l.length := by omega
      simp (implicitDefEqProofs := false) (dsimp := false) only [↓optK_some, ↓rwK_mk_, ↓aw_seq, ↓aw_exit, ↓aw_ret, ↓aw_reg, ↓Qseq_n, ↓Qseq_x, ↓Qblk_x, ↓ops_nil, ↓ops_cons, ↓eval_tmp, ↓put_some, ↓op_move, ↓op_assign, ↓row_sz, ↓row_xs, ↓Qrow_r, ↓rowK_o, List.getD_cons_zero, List.getD_cons_succ, List.set_cons_zero, List.set_cons_succ, Bool.true_and, Nat.reduceAdd, Nat.reduceSub, Nat.reduceMul, evK_go, reduceIte, decide_false, Nat.reduceEqDiff, Nat.reduceLT, true_and, Nat.lt_irrefl]
      have h2 := (riseK_len l l.length (Nat.le_refl _)).2
      exact List.take_of_length_le (by simp [h2])
theorem rise_call (l : List Int) (pure : Bool) (σ : St) (dst : Option Tmp) (K : St → Prop) : CallH Tryd.prog 33 [.l (l.map (I .i64))] pure σ dst (.mk : Hid K) = OrH ((l.length ≤ 1000) ∧ (pure || Res.flat (.row 1 ((rising l).map (I .i64)))) = true ∧ evK ((σ.addRow ⟨1, (rising l).map (I .i64)⟩).put dst (.o σ.rw.length 0 (List.length ((rising l).map (I .i64))))) (.mk : Hid K)) (.mk : Hid (CallH Tryd.prog 33 [.l (l.map (I .i64))] pure σ dst (.mk : Hid K))) := CallH.eqR (fun h => rise_spec l h) pure σ dst K
theorem rise_callD (l : List Int) (pure : Bool) (σ : St) (dst : Option Tmp) (K : St → Prop) : CallH Tryd.prog 33 [.l (l.map (I .i64))] pure σ dst (.mk : Hid K) = OrH ((l.length ≤ 1000) ∧ (pure || D.flat (.l ((rising l).map (I .i64)))) = true ∧ evK (σ.put dst (.d (.l ((rising l).map (I .i64))))) (.mk : Hid K)) (.mk : Hid (CallH Tryd.prog 33 [.l (l.map (I .i64))] pure σ dst (.mk : Hid K))) := CallH.eq (fun h => ((fun h => rise_spec l h) h).data) pure σ dst K
theorem rise_callDQ (l : List Int) (pure : Bool) (C : V → Prop) : CallQ Tryd.prog 33 [.l (l.map (I .i64))] pure (.mk : Hid C) = OrH ((l.length ≤ 1000) ∧ (pure || D.flat (.l ((rising l).map (I .i64)))) = true ∧ evK (V.d (.l ((rising l).map (I .i64)))) (.mk : Hid C)) (.mk : Hid (CallQ Tryd.prog 33 [.l (l.map (I .i64))] pure (.mk : Hid C))) := CallQ.eq (fun h => ((fun h => rise_spec l h) h).data) pure C
end Go.Proofs

namespace Go.Proofs
open Go.Aw
set_option linter.unusedSimpArgs false
set_option maxRecDepth 10000
theorem topoE_iff {n : Int} {l : List (Int × Int)} : topoE n l = 0 ↔ chk n l = 0 ∧ ∃ o, topoO n.toNat (natL l) = some o := by
  refine ⟨topoE_zero, fun ⟨h, o, ho⟩ => ?_⟩
  unfold topoE
  rw [if_pos h, ho]; rfl
theorem path1_back {l : List (Nat × Nat)} {a b : Nat} : Path1 (backL l) a b ↔ Path1 l b a := by
  have h : Path1 (l.map flip) a b ↔ Path1 l b a := path1_flip
  rw [← h]
  exact ⟨Path1.mono fun p hp => back_mem.1 hp, Path1.mono fun p hp => back_mem.2 hp⟩
theorem topoO_back {n : Nat} {l : List (Nat × Nat)} (hn : n ≤ 64) (hg : Good n l) : topoO n (backL l) = none ↔ topoO n l = none := by
  rw [topo_iff hn hg, topo_iff hn (back_good hg)]
  exact ⟨fun ⟨i, h⟩ => ⟨i, path1_back.1 h⟩, fun ⟨i, h⟩ => ⟨i, path1_back.2 h⟩⟩
theorem topoE_back {n : Int} {l : List (Int × Int)} : topoE n (backI l) = 0 ↔ topoE n l = 0 := by
  rw [topoE_iff, topoE_iff, chk_back, natL_back]
  refine and_congr_right fun h => ?_
  have hcr := (chk_ok h).cr
  have := topoO_back hcr.1 hcr.2.2
  rw [← Option.isSome_iff_exists, ← Option.isSome_iff_exists, Option.isSome_iff_ne_none, Option.isSome_iff_ne_none, ne_eq, ne_eq, this]
theorem deep_back_le {n : Nat} {l l' : List (Nat × Nat)} {d d' : List Nat} (hg : Good n l) (hl : d.length = n) (hl' : d'.length = n) (hd : IsDeep l fun j => d.getD j default) (hd' : IsDeep l' fun j => d'.getD j default) (hm : ∀ p ∈ l.map flip, p ∈ l') (h0 : 0 < n) : maxN d ≤ maxN d' := by
  obtain ⟨h1, _⟩ := maxN_spec (l := d) (by omega)
  obtain ⟨_, h2⟩ := maxN_spec (l := d') (by omega)
  obtain ⟨b, hb, e⟩ := List.mem_iff_getElem.1 h1
  have e' : d.getD b default = maxN d := by rw [List.getD_eq_getElem?_getD, List.getElem?_eq_getElem hb, Option.getD_some, e]
  obtain ⟨a, ha⟩ := hd.way _ b e'
  have han := ha.start hg (by omega)
  have := (ha.flip.mono hm).le hd'
  have h3 := h2 _ (getD_mem (l := d') (k := a) (by omega))
  have h4 : d.getD b default + 0 = d.getD b default := rfl
  omega
theorem deep_back {n : Nat} {l : List (Nat × Nat)} {d d' : List Nat} (hg : Good n l) (hl : d.length = n) (hl' : d'.length = n) (hd : IsDeep l fun j => d.getD j default) (hd' : IsDeep (backL l) fun j => d'.getD j default) (h0 : 0 < n) : maxN d = maxN d' :=
  Nat.le_antisymm (deep_back_le hg hl hl' hd hd' (fun p hp => back_mem.2 hp) h0)
    (deep_back_le (back_good hg) hl' hl hd' hd (fun p hp => by
      obtain ⟨q, hq, rfl⟩ := List.mem_map.1 hp
      obtain ⟨r, hr, rfl⟩ := List.mem_map.1 (back_mem.1 hq)
      exact hr) h0)
theorem rise_max {d : List Nat} (h : 0 < d.length) : (rising (d.map Int.ofNat)).getD (d.length - 1) default = (maxN d : Nat) := by
  obtain ⟨h1, h2⟩ := maxN_spec h
  have := rising_last (l := d.map Int.ofNat) (m := (maxN d : Nat)) (List.mem_map.2 ⟨_, h1, rfl⟩) (fun x hx => by
    obtain ⟨y, hy, rfl⟩ := List.mem_map.1 hx
    have := h2 y hy
    show (y : Int) ≤ _
    omega)
  simpa using this
theorem lTopoTurn_spec (n : Int) (l : List (Int × Int)) (hn : -9223372036854775808 ≤ n ∧ n ≤ 9223372036854775807) (hl : l.length < 2 ^ 43) : FnD Tryd.prog 6 [I .i64 n, .l (l.map lnD)] (Bo true) := by
  have hl62 : l.length < 2 ^ 62 := by omega
  have hb62 : (backI l).length < 2 ^ 62 := by simp [backI]; omega
  have hl43 := hl
  refine FnD.go Tryd.func6 rfl rfl Tryd.results6 Tryd.ntmps6 ?_
  simp (implicitDefEqProofs := false) (dsimp := false) only [↓aw_seq, ↓aw_reg, ↓Qseq_n, ↓ops_nil, ↓ops_cons, ↓eval_bool, ↓eval_func, ↓put_some, ↓op_assign, ↓op_call, isD_d, ↓fnK_f, ↓call_H, ↓callK_H, ↓allT_nil, ↓td_d, List.set_cons_zero, List.set_cons_succ, List.cons_append, List.nil_append, List.append_nil, List.map_cons, List.map_nil, List.length_cons, List.length_nil, List.all_nil, Bool.and_self, Nat.reduceAdd, Nat.reduceSub, Nat.reduceMul, Nat.zero_add, List.replicate, evK_go, reduceIte, Nat.reduceEqDiff, Nat.reduceLT, and_self, Int.zero_add]
  simp (implicitDefEqProofs := false) (dsimp := false) only [topofact_call, deepw_call, order_call, back_callD, hl62, hb62, hl43, eval_nilI, ↓er_neq, ↓cdK_false, ↓cdK_not, ↓nthK_H, ↓nthH_zero, ↓nthH_succ, ↓aw_cond, ↓aw_seq, ↓aw_skip, ↓aw_reg, ↓Qseq_n, ↓ops_nil, ↓ops_cons, ↓eval_tmp, ↓eval_func, ↓put_some, ↓bK_b, ↓tK_t, ↓op_move, ↓op_assign, ↓op_bin, ↓op_not, ↓op_extract, ↓op_call, isD_d, ↓fnK_f, ↓call_H, ↓callK_H, ↓allT_nil, ↓allT_cons, ↓td_d, List.getD_cons_zero, List.getD_cons_succ, List.set_cons_zero, List.set_cons_succ, List.append_nil, List.all_cons, List.all_nil, Bool.true_and, Bool.and_self, Bool.true_or, Nat.reduceAdd, Nat.reduceSub, Nat.reduceMul, evK_go, reduceIte, Bool.not_true, Nat.reduceEqDiff, Nat.reduceLT, and_self, true_and]
  (repeat refine OrH.l ?_)
  refine cdK_dec (fun hc => ?_) (fun hc => ?_)
  rotate_left
  · have hb : ¬ topoE n (backI l) = 0 := fun e => hc (topoE_back.1 e)
    simp (implicitDefEqProofs := false) (dsimp := false) only [hb, eval_nilI, ↓er_neq, ↓cdK_true, ↓gdK_t, ↓gval_mk, ↓gvL_zero, ↓gvL_succ, ↓aw_seq, ↓aw_ret, ↓aw_reg, ↓Qseq_n, ↓Qseq_r, ↓Qret_r, ↓ops_nil, ↓ops_cons, ↓ops_guard, ↓eval_tmp, ↓put_some, ↓bK_b, ↓op_move, ↓op_assign, ↓op_pick, ↓op_bin, ↓td_d, ↓ret_1, ↓st_tm, List.getD_cons_zero, List.getD_cons_succ, List.set_cons_zero, List.set_cons_succ, Nat.reduceAdd, Nat.reduceSub, Nat.reduceMul, evK_go, reduceIte, decide_false, Bool.not_false, Nat.reduceEqDiff, Nat.reduceLT]
  have hb : topoE n (backI l) = 0 := topoE_back.2 hc
  obtain ⟨hc0, o, ho⟩ := topoE_zero hc
  obtain ⟨hb0, q, hq⟩ := topoE_zero hb
  have ok := chk_ok hc0
  have hcr := ok.cr
  have h8 := ok.hi
  have h1 := ok.lo
  have e0 := ok.n0
  rw [natL_back] at hq
  have hTI := topo_some hcr.1 hcr.2.2 ho
  have hTI' := topo_some hcr.1 (back_good hcr.2.2) hq
  obtain ⟨hdl, hd⟩ := deep_spec hcr.1 hcr.2.2 hTI
  obtain ⟨hdl', hd'⟩ := deep_spec hcr.1 (back_good hcr.2.2) hTI'
  have e1 : deepR n l = deepS n.toNat (natL l) o := by
    unfold deepR topoL
    rw [if_pos hc, if_pos hc0, ho]; rfl
  have e2 : deepR n (backI l) = deepS n.toNat (backL (natL l)) q := by
    unfold deepR topoL
    rw [if_pos hb, if_pos hb0, natL_back, hq]; rfl
  have e3 : topoL n (backI l) = q := by
    unfold topoL
    rw [if_pos hb0, natL_back, hq]; rfl
  have hql : q.length = n.toNat := hTI'.len
  have hmax := deep_back hcr.2.2 hdl hdl' hd hd' (by omega)
  have hlt : ∀ b, b < n.toNat → (deepS n.toNat (natL l) o).getD b default < n.toNat := fun b hb => deep_lt (d := fun j => (deepS n.toNat (natL l) o).getD j default) hcr.2.2 hTI hd hb
  have hmx : maxN (deepS n.toNat (natL l) o) < n.toNat := by
    obtain ⟨h3, _⟩ := maxN_spec (l := deepS n.toNat (natL l) o) (by omega)
    obtain ⟨b, hb, e⟩ := List.mem_iff_getElem.1 h3
    have := hlt b (by omega)
    rw [List.getD_eq_getElem?_getD, List.getElem?_eq_getElem hb, Option.getD_some, e] at this
    exact this
  have hr1 := rise_max (d := deepS n.toNat (natL l) o) (by omega)
  have hr2 := rise_max (d := deepS n.toNat (backL (natL l)) q) (by omega)
  have hs1 := (rising_spec ((deepS n.toNat (natL l) o).map Int.ofNat)).1
  have hs2 := (rising_spec ((deepS n.toNat (backL (natL l)) q).map Int.ofNat)).1
  rw [hdl] at hr1
  rw [hdl'] at hr2
  rw [List.length_map] at hs1 hs2
  rw [hc, hb, e1, e2, e3]
  clear ok hc hc0 e1 e2 e3 hb hb0 hlt hd hd' hTI hTI'
  generalize n.toNat = m at *
  subst e0
  generalize deepS m (natL l) o = d at *
  generalize deepS m (backL (natL l)) q = d' at *
  rw [← hmax] at hr2
  generalize maxN d = z at *
  generalize hR1 : rising (d.map Int.ofNat) = R1 at *
  generalize hR2 : rising (d'.map Int.ofNat) = R2 at *
  have hd1000 : (d.map Int.ofNat).length ≤ 1000 := by simp; omega
  have hd1001 : (d'.map Int.ofNat).length ≤ 1000 := by simp; omega
  simp (implicitDefEqProofs := false) (dsimp := false) only [hdl, hdl', hql, nD_ints, rise_call, hR1, hR2, eval_nilI, ↓er_neq, rflat_I, ↓cdK_false, ↓gdK_t, ↓gdK_f, ↓gval_mk, ↓gvL_zero, ↓gvL_succ, ↓optK_some, ↓rwK_mk_, ↓atK_H, ↓atH_map, ↓nthK_H, ↓nthH_zero, ↓aw_cond, ↓aw_seq, ↓aw_skip, ↓aw_reg, ↓aw_draw, ↓Qseq_n, ↓ops_nil, ↓ops_cons, ↓ops_guard, ↓eval_tmp, ↓eval_int, ↓eval_func, ↓put_some, ↓bK_b, ↓iK_i, ↓lenK_l, ↓ev_move, ↓ev_load, ↓ev_bin, ↓ev_ia, ↓binE_i, ↓bi_sub, ↓bi_eql, ↓bi_neq, ↓in_i64, ↓ldK_e, ↓iaK_o, ↓op_move, ↓op_assign, ↓op_pick, ↓op_bin, ↓op_len, ↓op_call, isD_d, ↓fnK_f, ↓call_H, ↓callK_H, ↓allT_nil, ↓allT_cons, ↓td_d, ↓draw_H, ↓h_cons, ↓ldH_n, ↓ldH_g, ↓q_move, ↓q_load, ↓q_bin, ↓q_ia, ↓il_move, ↓il_load, ↓il_bin, ↓il_ia, ↓addRow_mk, ↓st_tm, ↓st_rw, ↓row_sz, ↓row_xs, ↓cells_c, ↓ty3, ↓sl24, List.getD_cons_zero, List.getD_cons_succ, List.set_cons_zero, List.set_cons_succ, List.cons_append, List.nil_append, List.append_nil, List.length_cons, List.length_nil, List.length_map, List.all_cons, List.all_nil, Bool.true_and, Bool.and_self, Bool.or_true, Nat.reduceAdd, Nat.reduceSub, Nat.reduceMul, Nat.zero_add, evK_go, reduceIte, decide_true, Bool.not_true, Nat.reduceEqDiff, Nat.reduceLT, and_self, true_and, Int.zero_add]
  have em : ((m : Int) - 1).toNat = m - 1 := by omega
  simp (implicitDefEqProofs := false) (dsimp := false) only [em, hr1, hr2, ↓cdK_true, ↓gdK_t, ↓gval_mk, ↓gvL_zero, ↓gvL_succ, ↓optK_some, ↓rwK_mk_, ↓atK_H, ↓atH_map, ↓nthK_H, ↓nthH_zero, ↓eval_tmp, ↓eval_int, ↓eval_func, ↓put_some, ↓iK_i, ↓ev_move, ↓ev_load, ↓ev_bin, ↓ev_ia, ↓binE_i, ↓bi_sub, ↓in_i64, ↓ldK_e, ↓iaK_o, isD_d, ↓fnK_f, ↓callKQ_H, ↓allT_nil, ↓allT_cons, ↓td_d, ↓h_cons, ↓ldH_g, ↓q_call, ↓q_move, ↓q_load, ↓q_bin, ↓q_ia, ↓il_move, ↓il_load, ↓il_bin, ↓il_ia, ↓il_call, ↓st_tm, ↓row_sz, ↓row_xs, ↓cells_c, ↓ty3, ↓sl24, List.getD_cons_zero, List.getD_cons_succ, List.set_cons_zero, List.set_cons_succ, List.append_nil, List.all_cons, List.all_nil, Bool.true_and, Bool.and_self, Nat.reduceAdd, Nat.reduceSub, Nat.reduceMul, Nat.zero_add, evK_go, reduceIte, decide_true, Nat.reduceEqDiff, Nat.reduceLT, and_self, true_and, Int.zero_add]
  (repeat refine OrH.l ?_)
  refine ⟨by omega, ?_⟩
  (repeat refine OrH.l ?_)
  refine ⟨by omega, ?_⟩
  refine OrH.l ⟨DrawH.of follows_mixed (by kernel_rfl), by omega, by omega, by omega, by omega, by omega, by omega, ?_⟩
  simp (implicitDefEqProofs := false) (dsimp := false) only [in2_callQ, ↓cdK_true, ↓aw_ret, ↓Qseq_n, ↓Qret_r, ↓eval_tmp, ↓put_some, ↓bK_b, ↓ev_assign, ↓ev_pick, ↓td_d, ↓ret_1, ↓h_nil, ↓h_cons, ↓ldH_n, ↓q_assign, ↓q_pick, ↓il_assign, ↓il_pick, List.getD_cons_zero, List.getD_cons_succ, List.set_cons_zero, List.set_cons_succ, Bool.true_and, Bool.true_or, Nat.reduceAdd, Nat.reduceSub, Nat.reduceMul, evK_go, reduceIte, Nat.reduceEqDiff, Nat.reduceLT, true_and]
  refine ⟨by omega, by omega, by omega, by omega, ?_⟩
  (repeat refine OrH.l ?_)
  have : inB (z : Int) 0 ((m : Int) - 1) = true := by simp [inB]; omega
  rw [this]
end Go.Proofs

namespace Go.Proofs
open Go.Aw
set_option linter.unusedSimpArgs false
set_option maxRecDepth 10000
/-- The deepest so far of where lines to a point come from. -/
def MostK (d : List Nat) (l : List (Nat × Nat)) (i : Nat) (m : Int) : Prop := (∀ p ∈ l, p.2 = i → (d.getD p.1 default : Int) ≤ m) ∧ (m = -1 ∨ ∃ p ∈ l, p.2 = i ∧ m = (d.getD p.1 default : Nat))
theorem MostK.next {d : List Nat} {l : List (Nat × Nat)} {i : Nat} {m : Int} (h : MostK d l i m) (p : Nat × Nat) : MostK d (l ++ [p]) i (if p.2 = i ∧ m < (d.getD p.1 default : Nat) then ((d.getD p.1 default : Nat) : Int) else m) := by
  obtain ⟨h1, h2⟩ := h
  split
  · rename_i hp
    refine ⟨fun q hq hi => ?_, .inr ⟨p, by simp, hp.1, rfl⟩⟩
    rcases List.mem_append.1 hq with hq | hq
    · have := h1 q hq hi; omega
    · rw [List.mem_singleton.1 hq]; exact Int.le_refl _
  · rename_i hp
    refine ⟨fun q hq hi => ?_, h2.imp id fun ⟨q, hq, h3⟩ => ⟨q, by simp [hq], h3⟩⟩
    rcases List.mem_append.1 hq with hq | hq
    · exact h1 q hq hi
    · rw [List.mem_singleton.1 hq] at hi ⊢
      by_cases hm : m < (d.getD p.1 default : Nat)
      · exact absurd ⟨hi, hm⟩ hp
      · omega
theorem MostK.done {d : List Nat} {l : List (Nat × Nat)} {i : Nat} {m : Int} (h : MostK d l i m) (hd : IsDeep l fun j => d.getD j default) : (d.getD i default : Int) = m + 1 := by
  obtain ⟨h1, h2⟩ := h
  obtain ⟨g1, g2⟩ := hd
  rcases h2 with rfl | ⟨p, hp, rfl, rfl⟩
  · rcases g2 i with h3 | ⟨a, ha, _⟩
    · simp only at h3; omega
    · have := h1 _ ha rfl
      simp only at this; omega
  · have h3 := g1 p.1 p.2 hp
    rcases g2 p.2 with h4 | ⟨a, ha, h5⟩
    · simp only at h3 h4; omega
    · have := h1 _ ha rfl
      simp only at this h3 h5; omega
theorem lTopoDeep_spec (n : Int) (l : List (Int × Int)) (hn : -9223372036854775808 ≤ n ∧ n ≤ 9223372036854775807) (hl : l.length < 2 ^ 43) : FnD Tryd.prog 5 [I .i64 n, .l (l.map lnD)] (Bo true) := by
  have hl62 : l.length < 2 ^ 62 := by omega
  refine FnD.go Tryd.func5 rfl rfl Tryd.results5 Tryd.ntmps5 ?_
  simp (implicitDefEqProofs := false) (dsimp := false) only [↓aw_seq, ↓aw_reg, ↓Qseq_n, ↓ops_nil, ↓ops_cons, ↓eval_bool, ↓eval_func, ↓put_some, ↓op_assign, ↓op_call, isD_d, ↓fnK_f, ↓call_H, ↓callK_H, ↓allT_nil, ↓td_d, List.set_cons_zero, List.set_cons_succ, List.cons_append, List.nil_append, List.append_nil, List.map_cons, List.map_nil, List.length_cons, List.length_nil, List.all_nil, Bool.and_self, Nat.reduceAdd, Nat.reduceSub, Nat.reduceMul, Nat.zero_add, List.replicate, evK_go, reduceIte, Nat.reduceEqDiff, Nat.reduceLT, and_self, Int.zero_add]
  simp (implicitDefEqProofs := false) (dsimp := false) only [topofact_call, deepw_call, hl62, eval_nilI, ↓er_neq, ↓cdK_false, ↓cdK_not, ↓nthK_H, ↓nthH_zero, ↓nthH_succ, ↓aw_cond, ↓aw_seq, ↓aw_skip, ↓aw_reg, ↓Qseq_n, ↓ops_nil, ↓ops_cons, ↓eval_tmp, ↓eval_func, ↓put_some, ↓bK_b, ↓tK_t, ↓op_move, ↓op_assign, ↓op_bin, ↓op_not, ↓op_extract, ↓op_call, isD_d, ↓fnK_f, ↓call_H, ↓callK_H, ↓allT_nil, ↓allT_cons, ↓td_d, List.getD_cons_zero, List.getD_cons_succ, List.set_cons_zero, List.set_cons_succ, List.append_nil, List.all_cons, List.all_nil, Bool.true_and, Bool.and_self, Bool.true_or, Nat.reduceAdd, Nat.reduceSub, Nat.reduceMul, evK_go, reduceIte, Bool.not_true, Nat.reduceEqDiff, Nat.reduceLT, and_self, true_and]
  (repeat refine OrH.l ?_)
  refine cdK_dec (fun hc => ?_) (fun hc => ?_)
  rotate_left
  · have e1 : deepR n l = [] := if_neg hc
    simp (implicitDefEqProofs := false) (dsimp := false) only [e1, ↓aw_seq, ↓aw_ret, ↓aw_reg, ↓Qseq_n, ↓Qseq_r, ↓Qret_r, ↓ops_nil, ↓ops_cons, ↓eval_tmp, ↓eval_int, ↓put_some, ↓lenK_l, ↓binE_i, ↓bi_eql, ↓op_move, ↓op_assign, ↓op_bin, ↓op_len, ↓td_d, ↓ret_1, ↓sl24, List.getD_cons_zero, List.getD_cons_succ, List.set_cons_zero, List.set_cons_succ, List.map_nil, List.length_nil, Nat.reduceAdd, Nat.reduceSub, Nat.reduceMul, evK_go, reduceIte, decide_true, Nat.reduceEqDiff, Nat.reduceLT, Int.cast_ofNat_Int]
  obtain ⟨hc0, o, ho⟩ := topoE_zero hc
  have ok := chk_ok hc0
  have e1 : deepR n l = deepS n.toNat (natL l) o := by
    unfold deepR topoL
    rw [if_pos hc, if_pos hc0, ho]; rfl
  rw [e1, lnD_nat ok.rng, hc]
  have hcr := ok.cr
  have h8 := ok.hi
  have e0 := ok.n0
  have hlen : (natL l).length = l.length := natL_len l
  obtain ⟨hdl, hd⟩ := deep_spec hcr.1 hcr.2.2 (topo_some hcr.1 hcr.2.2 ho)
  have hlt : ∀ b, b < n.toNat → (deepS n.toNat (natL l) o).getD b default < n.toNat := fun b hb => deep_lt (d := fun j => (deepS n.toNat (natL l) o).getD j default) hcr.2.2 (topo_some hcr.1 hcr.2.2 ho) hd hb
  clear ok hc hc0 e1
  generalize n.toNat = m at *
  subst e0
  generalize natL l = L at *
  generalize deepS m L o = d at *
  have hg := hcr.2.2
  simp (implicitDefEqProofs := false) (dsimp := false) only [hdl, ↓cdK_false, ↓aw_cond, ↓aw_seq, ↓aw_block, ↓aw_skip, ↓aw_loop, ↓aw_reg, ↓Qseq_n, ↓ops_nil, ↓ops_cons, ↓eval_tmp, ↓eval_int, ↓put_some, ↓bK_b, ↓lenK_l, ↓binE_i, ↓bi_neq, ↓op_move, ↓op_assign, ↓op_bin, ↓op_len, ↓sl24, List.getD_cons_zero, List.getD_cons_succ, List.set_cons_zero, List.set_cons_succ, List.length_map, Nat.reduceAdd, Nat.reduceSub, Nat.reduceMul, evK_go, reduceIte, decide_true, Bool.not_true, Nat.reduceEqDiff, Nat.reduceLT]
  refine loopW (fun i : Nat => { tm := slots 74 [(0, .d (I .i64 (m : Int))), (1, .d (.l (L.map lnN))), (6, .d (.l (d.map nD))), (8, .d (I .i64 i))], bx := [], rw := [] })
    (fun i => i ≤ m) (fun i => m - i) 0 (by simp) ?_ ?_
  · refine Wkn.of [] [] ?_; simp (implicitDefEqProofs := false) (dsimp := false) only [List.set_cons_zero, List.set_cons_succ, Bool.and_self, Nat.reduceAdd, Nat.reduceSub, Nat.reduceMul, List.replicate, evK_go, reduceIte, Nat.reduceEqDiff, Nat.reduceLT, and_self, List.foldl_cons, List.foldl_nil, Int.cast_ofNat_Int, slots, wkL_nil, wkL_cons, wkB_nil, wkR_nil, wkV_j, wkV_d, frz_d, reduceCtorEq]
  · intro i hi
    simp (implicitDefEqProofs := false) (dsimp := false) only [slots, ↓aw_cond, ↓aw_seq, ↓aw_reg, ↓Qseq_n, ↓ops_nil, ↓ops_cons, ↓eval_tmp, ↓put_some, ↓bK_b, ↓binE_i, ↓bi_lss, ↓op_move, ↓op_bin, List.getD_cons_zero, List.getD_cons_succ, List.set_cons_zero, List.set_cons_succ, Nat.reduceAdd, Nat.reduceSub, Nat.reduceMul, List.replicate, evK_go, reduceIte, Nat.reduceEqDiff, Nat.reduceLT, List.foldl_cons, List.foldl_nil, Int.ofNat_lt]
    refine cdK_dec (fun h => ?_) (fun h => ?_)
    rotate_left
    · simp (implicitDefEqProofs := false) (dsimp := false) only [↓aw_seq, ↓aw_exit, ↓aw_ret, ↓aw_reg, ↓Qseq_n, ↓Qseq_x, ↓Qblk_x, ↓Qret_r, ↓ops_nil, ↓ops_cons, ↓eval_tmp, ↓eval_bool, ↓put_some, ↓op_assign, ↓td_d, ↓ret_1, List.getD_cons_zero, List.getD_cons_succ, List.set_cons_zero, List.set_cons_succ, Nat.reduceAdd, Nat.reduceSub, Nat.reduceMul, evK_go, reduceIte, Nat.reduceEqDiff, Nat.reduceLT]
    simp (implicitDefEqProofs := false) (dsimp := false) only [↓aw_seq, ↓aw_block, ↓aw_skip, ↓aw_loop, ↓aw_reg, ↓Qseq_n, ↓ops_nil, ↓ops_cons, ↓eval_int, ↓put_some, ↓op_assign, List.set_cons_zero, List.set_cons_succ, Nat.reduceAdd, Nat.reduceSub, Nat.reduceMul, evK_go, reduceIte, Nat.reduceEqDiff, Nat.reduceLT]
    have him : i < m := by omega
    refine loopW (fun x : Nat × Int => { tm := slots 74 [(0, .d (I .i64 (m : Int))), (1, .d (.l (L.map lnN))), (6, .d (.l (d.map nD))), (8, .d (I .i64 i)), (9, .d (I .i64 x.2)), (10, .d (I .i64 x.1))], bx := [], rw := [] })
      (fun x => x.1 ≤ L.length ∧ MostK d (L.take x.1) i x.2) (fun x => L.length - x.1) (0, -1) ⟨by simp, ⟨by simp, .inl rfl⟩⟩ ?_ ?_
    · refine Wkn.of [] [] ?_; simp (implicitDefEqProofs := false) (dsimp := false) only [List.set_cons_zero, List.set_cons_succ, Bool.and_self, Nat.reduceAdd, Nat.reduceSub, Nat.reduceMul, List.replicate, evK_go, reduceIte, Nat.reduceEqDiff, Nat.reduceLT, and_self, List.foldl_cons, List.foldl_nil, Int.cast_ofNat_Int, slots, wkL_nil, wkL_cons, wkB_nil, wkR_nil, wkV_j, wkV_d, frz_d, reduceCtorEq]
    · rintro ⟨k, z⟩ ⟨hk, hz⟩
      simp only at hk hz
      simp (implicitDefEqProofs := false) (dsimp := false) only [slots, ↓aw_cond, ↓aw_seq, ↓aw_reg, ↓Qseq_n, ↓ops_nil, ↓ops_cons, ↓eval_tmp, ↓put_some, ↓bK_b, ↓lenK_l, ↓binE_i, ↓bi_lss, ↓op_move, ↓op_bin, ↓op_len, ↓sl22, List.getD_cons_zero, List.getD_cons_succ, List.set_cons_zero, List.set_cons_succ, List.length_map, Nat.reduceAdd, Nat.reduceSub, Nat.reduceMul, List.replicate, evK_go, reduceIte, Nat.reduceEqDiff, Nat.reduceLT, List.foldl_cons, List.foldl_nil, Int.ofNat_lt]
      refine cdK_dec (fun h2 => ?_) (fun h2 => ?_)
      · have hkL : k < L.length := by omega
        have hp := hg _ (getD_mem hkL)
        have hnx := hz.next (L.getD k default)
        rw [← take_succ_getD hkL] at hnx
        generalize hab : L.getD k default = p at hp hnx
        obtain ⟨a, b⟩ := p
        simp only at hp hnx
        have had : a < d.length := by omega
        by_cases hbi : b = i
        · subst hbi
          have hx := hlt a (by omega)
          simp (implicitDefEqProofs := false) (dsimp := false) only [hkL, hab, lnN, nD, had, ↓cdK_true, ↓gdK_t, ↓gval_mk, ↓gvL_zero, ↓gvL_succ, ↓atK_H, ↓atH_map, ↓aw_cond, ↓aw_seq, ↓aw_block, ↓aw_skip, ↓aw_reg, ↓Qseq_n, ↓ops_nil, ↓ops_cons, ↓ops_guard, ↓eval_tmp, ↓put_some, ↓bK_b, ↓iK_i, ↓binE_i, ↓bi_eql, ↓bi_gtr, ↓ldK_q, ↓faK_q, ↓iaK_l, ↓op_move, ↓op_pick, ↓op_load, ↓op_bin, ↓op_fa, ↓op_ia, ↓st_tm, ↓cells_c, ↓cells_s, ↓hd_cons, ↓ty3, ↓sl22, ↓sl24, ↓ty41, ↓fd41_0, ↓fd41_1, List.getD_cons_zero, List.getD_cons_succ, List.set_cons_zero, List.set_cons_succ, List.length_cons, List.length_nil, Bool.true_and, Nat.reduceAdd, Nat.reduceSub, Nat.reduceMul, Nat.zero_add, Int.toNat_natCast, evK_go, reduceIte, decide_true, Nat.reduceEqDiff, Nat.reduceLT, true_and, Int.zero_add, List.drop_zero, List.drop_succ_cons, Int.natCast_nonneg]
          refine cdK_dec (fun h3 => ?_) (fun h3 => ?_)
          · rw [if_pos ⟨rfl, by omega⟩] at hnx
            simp (implicitDefEqProofs := false) (dsimp := false) only [hkL, hab, lnN, nD, had, ↓atK_H, ↓atH_map, ↓aw_reg, ↓Qseq_n, ↓Qblk_n, ↓ops_nil, ↓ops_cons, ↓eval_tmp, ↓eval_int, ↓put_some, ↓iK_i, ↓binE_i, ↓bi_add, ↓in_i64, ↓ldK_q, ↓faK_q, ↓iaK_l, ↓op_move, ↓op_assign, ↓op_load, ↓op_bin, ↓op_fa, ↓op_ia, ↓cells_c, ↓cells_s, ↓hd_cons, ↓ty3, ↓sl22, ↓sl24, ↓ty41, ↓fd41_0, List.getD_cons_zero, List.getD_cons_succ, List.set_cons_zero, List.set_cons_succ, List.length_cons, List.length_nil, Bool.true_and, Nat.reduceAdd, Nat.reduceSub, Nat.reduceMul, Nat.zero_add, Int.toNat_natCast, evK_go, reduceIte, Nat.reduceEqDiff, Nat.reduceLT, true_and, Int.zero_add, List.drop_zero, Int.natCast_nonneg]
            refine ⟨by omega, ⟨k + 1, _⟩, ⟨by omega, hnx⟩, by simp only; omega, ?_⟩
            refine Wkn.of [] [] ?_; simp (implicitDefEqProofs := false) (dsimp := false) only [List.set_cons_zero, List.set_cons_succ, Bool.and_self, Nat.reduceAdd, Nat.reduceSub, Nat.reduceMul, List.replicate, evK_go, reduceIte, Nat.reduceEqDiff, Nat.reduceLT, and_self, List.foldl_cons, List.foldl_nil, Int.cast_ofNat_Int, Int.natCast_add, slots, wkL_nil, wkL_cons, wkB_nil, wkR_nil, wkV_j, wkV_d, frz_d, reduceCtorEq]
          · rw [if_neg (fun e => h3 (by omega))] at hnx
            simp (implicitDefEqProofs := false) (dsimp := false) only [↓aw_skip, ↓aw_reg, ↓Qseq_n, ↓Qblk_n, ↓ops_nil, ↓ops_cons, ↓eval_tmp, ↓eval_int, ↓put_some, ↓binE_i, ↓bi_add, ↓in_i64, ↓op_move, ↓op_assign, ↓op_bin, List.getD_cons_zero, List.getD_cons_succ, List.set_cons_zero, List.set_cons_succ, Nat.reduceAdd, Nat.reduceSub, Nat.reduceMul, evK_go, reduceIte, Nat.reduceEqDiff, Nat.reduceLT]
            refine ⟨by omega, ⟨k + 1, _⟩, ⟨by omega, hnx⟩, by simp only; omega, ?_⟩
            refine Wkn.of [] [] ?_; simp (implicitDefEqProofs := false) (dsimp := false) only [List.set_cons_zero, List.set_cons_succ, Bool.and_self, Nat.reduceAdd, Nat.reduceSub, Nat.reduceMul, List.replicate, evK_go, reduceIte, Nat.reduceEqDiff, Nat.reduceLT, and_self, List.foldl_cons, List.foldl_nil, Int.cast_ofNat_Int, Int.natCast_add, slots, wkL_nil, wkL_cons, wkB_nil, wkR_nil, wkV_j, wkV_d, frz_d, reduceCtorEq]
        · have hbi' : decide (b = i) = false := decide_eq_false hbi
          rw [if_neg (fun e => hbi e.1)] at hnx
          simp (implicitDefEqProofs := false) (dsimp := false) only [hkL, hab, lnN, hbi', ↓cdK_false, ↓gdK_t, ↓gval_mk, ↓gvL_zero, ↓gvL_succ, ↓atK_H, ↓atH_map, ↓aw_cond, ↓aw_seq, ↓aw_block, ↓aw_skip, ↓aw_reg, ↓Qseq_n, ↓Qblk_n, ↓ops_nil, ↓ops_cons, ↓ops_guard, ↓eval_tmp, ↓eval_int, ↓eval_bool, ↓put_some, ↓bK_b, ↓iK_i, ↓binE_i, ↓bi_add, ↓bi_eql, ↓in_i64, ↓ldK_q, ↓faK_q, ↓iaK_l, ↓op_move, ↓op_assign, ↓op_pick, ↓op_load, ↓op_bin, ↓op_fa, ↓op_ia, ↓st_tm, ↓cells_s, ↓hd_cons, ↓ty3, ↓sl22, ↓ty41, ↓fd41_1, List.getD_cons_zero, List.getD_cons_succ, List.set_cons_zero, List.set_cons_succ, List.length_cons, List.length_nil, Bool.true_and, Nat.reduceAdd, Nat.reduceSub, Nat.reduceMul, Nat.zero_add, Int.toNat_natCast, evK_go, reduceIte, decide_true, Nat.reduceEqDiff, Nat.reduceLT, true_and, Int.zero_add, List.drop_zero, List.drop_succ_cons, Int.natCast_nonneg, Int.natCast_inj]
          refine ⟨by omega, ⟨k + 1, _⟩, ⟨by omega, hnx⟩, by simp only; omega, ?_⟩
          refine Wkn.of [] [] ?_; simp (implicitDefEqProofs := false) (dsimp := false) only [List.set_cons_zero, List.set_cons_succ, Bool.and_self, Nat.reduceAdd, Nat.reduceSub, Nat.reduceMul, List.replicate, evK_go, reduceIte, Nat.reduceEqDiff, Nat.reduceLT, and_self, List.foldl_cons, List.foldl_nil, Int.cast_ofNat_Int, Int.natCast_add, slots, wkL_nil, wkL_cons, wkB_nil, wkR_nil, wkV_j, wkV_d, frz_d, reduceCtorEq]
      · obtain rfl : k = L.length := by omega
        rw [List.take_length] at hz
        have hfin := hz.done hd
        have hid : i < d.length := by omega
        have hii := hlt i him
        simp (implicitDefEqProofs := false) (dsimp := false) only [nD, hid, ↓cdK_not, ↓atK_H, ↓atH_map, ↓aw_cond, ↓aw_seq, ↓aw_exit, ↓aw_ret, ↓aw_reg, ↓Qseq_n, ↓Qseq_x, ↓Qblk_x, ↓Qret_r, ↓ops_nil, ↓ops_cons, ↓eval_tmp, ↓eval_int, ↓eval_bool, ↓put_some, ↓bK_b, ↓iK_i, ↓binE_i, ↓bi_add, ↓bi_neq, ↓in_i64, ↓ldK_q, ↓iaK_l, ↓op_move, ↓op_assign, ↓op_load, ↓op_bin, ↓op_ia, ↓td_d, ↓ret_1, ↓cells_c, ↓hd_cons, ↓ty3, ↓sl24, List.getD_cons_zero, List.getD_cons_succ, List.set_cons_zero, List.set_cons_succ, List.length_cons, List.length_nil, Bool.true_and, Nat.reduceAdd, Nat.reduceSub, Nat.reduceMul, Nat.zero_add, Int.toNat_natCast, evK_go, reduceIte, decide_false, Nat.reduceEqDiff, Nat.reduceLT, true_and, Nat.lt_irrefl, Int.zero_add, Int.natCast_nonneg]
        have h5 : (z + 1 : Int) = ((d.getD i default : Nat) : Int) := hfin.symm
        simp (implicitDefEqProofs := false) (dsimp := false) only [h5, ↓cdK_true, ↓aw_skip, ↓aw_reg, ↓Qseq_n, ↓Qblk_n, ↓ops_nil, ↓ops_cons, ↓eval_tmp, ↓eval_int, ↓put_some, ↓binE_i, ↓bi_add, ↓in_i64, ↓op_move, ↓op_assign, ↓op_bin, List.getD_cons_zero, List.getD_cons_succ, List.set_cons_zero, List.set_cons_succ, Nat.reduceAdd, Nat.reduceSub, Nat.reduceMul, evK_go, reduceIte, decide_true, Bool.not_true, Nat.reduceEqDiff, Nat.reduceLT]
        refine ⟨by omega, by omega, i + 1, by omega, by omega, ?_⟩
        refine Wkn.of [] [] ?_; simp (implicitDefEqProofs := false) (dsimp := false) only [List.set_cons_zero, List.set_cons_succ, Bool.and_self, Nat.reduceAdd, Nat.reduceSub, Nat.reduceMul, List.replicate, evK_go, reduceIte, Nat.reduceEqDiff, Nat.reduceLT, and_self, List.foldl_cons, List.foldl_nil, Int.cast_ofNat_Int, Int.natCast_add, slots, wkL_nil, wkL_cons, wkB_nil, wkR_nil, wkV_j, wkV_d, frz_d, reduceCtorEq]
end Go.Proofs

namespace Go.Proofs
open Go.Aw
set_option linter.unusedSimpArgs false
set_option maxRecDepth 10000
theorem hasN_spec (s : List Nat) (x : Nat) (hpre : s.length < 2 ^ 62) : FnD Tryd.prog 41 [.l (s.map nD), I .i64 (x : Int)] (Bo (decide (x ∈ s))) := by
  have h := hasR_spec (s.map Int.ofNat) (x : Int) (by simpa using hpre)
  rw [← nD_ints] at h
  have e : decide ((x : Int) ∈ s.map Int.ofNat) = decide (x ∈ s) := by
    rw [decide_eq_decide]
    constructor
    · intro h
      obtain ⟨y, hy, e⟩ := List.mem_map.1 h
      rw [← Int.ofNat.inj e]; exact hy
    · intro h; exact List.mem_map.2 ⟨x, h, rfl⟩
  rw [e] at h
  exact h
theorem hasN_call (s : List Nat) (x : Nat) (pure : Bool) (σ : St) (dst : Option Tmp) (K : St → Prop) : CallH Tryd.prog 41 [.l (s.map nD), I .i64 (x : Int)] pure σ dst (.mk : Hid K) = OrH ((s.length < 2 ^ 62) ∧ (pure || D.flat (Bo (decide (x ∈ s)))) = true ∧ evK (σ.put dst (.d (Bo (decide (x ∈ s))))) (.mk : Hid K)) (.mk : Hid (CallH Tryd.prog 41 [.l (s.map nD), I .i64 (x : Int)] pure σ dst (.mk : Hid K))) := CallH.eq (hasN_spec s x) pure σ dst K
theorem hasN_callQ (s : List Nat) (x : Nat) (pure : Bool) (C : V → Prop) : CallQ Tryd.prog 41 [.l (s.map nD), I .i64 (x : Int)] pure (.mk : Hid C) = OrH ((s.length < 2 ^ 62) ∧ (pure || D.flat (Bo (decide (x ∈ s)))) = true ∧ evK (V.d (Bo (decide (x ∈ s)))) (.mk : Hid C)) (.mk : Hid (CallQ Tryd.prog 41 [.l (s.map nD), I .i64 (x : Int)] pure (.mk : Hid C))) := CallQ.eq (hasN_spec s x) pure C
theorem rord_spec (m : Nat) (L : List (Nat × Nat)) (hpre : (1 ≤ m ∧ m ≤ 8) ∧ L.length < 2 ^ 62 ∧ Good m L) : FnD Tryd.prog 21 [I .i64 (m : Int), .l (L.map lnN)] (.t [.l (((topoO m L).getD []).map nD), Bo (topoO m L).isSome]) := by
  obtain ⟨⟨h1, h8⟩, hL, hg⟩ := hpre
  have hn : m ≤ 64 := by omega
  refine FnD.go Tryd.func21 rfl rfl Tryd.results21 Tryd.ntmps21 ?_
  simp (implicitDefEqProofs := false) (dsimp := false) only [↓aw_seq, ↓aw_block, ↓aw_loop, ↓aw_reg, ↓Qseq_n, ↓ops_nil, ↓ops_cons, ↓eval_bool, ↓eval_nil, ↓put_some, ↓op_assign, List.set_cons_zero, List.set_cons_succ, List.cons_append, List.nil_append, List.map_cons, List.map_nil, List.length_cons, List.length_nil, Nat.reduceAdd, Nat.reduceSub, Nat.reduceMul, Nat.zero_add, List.replicate, evK_go, reduceIte, Nat.reduceEqDiff, Nat.reduceLT, Int.zero_add]
  refine loopW (fun x : Nat × List Nat => { tm := slots 59 [(0, .d (I .i64 (m : Int))), (1, .d (.l (L.map lnN))), (6, .o 0 0 x.2.length)], bx := [], rw := [some ⟨1, x.2.map nD⟩] })
    (fun x => x.2.length ≤ m ∧ TI m L x.1 x.2 ∧ topoO m L = topoGo (outS m L) (m - x.2.length) x.1 x.2) (fun x => m - x.2.length) (2 ^ m - 1, []) ⟨by simp, .start m L, rfl⟩ ?_ ?_
  · refine Wkn.of [] [none] ?_
    simp (implicitDefEqProofs := false) (dsimp := false) only [↓row_xs, List.set_cons_zero, List.set_cons_succ, List.map_nil, List.length_nil, Bool.and_self, Nat.reduceAdd, Nat.reduceSub, Nat.reduceMul, List.replicate, evK_go, reduceIte, Nat.reduceEqDiff, Nat.reduceLT, and_self, List.foldl_cons, List.foldl_nil, slots, wkL_nil, wkL_cons, wkB_nil, wkR_nil, wkR_new, wkV_j, wkV_d, nlK_nl, wkV_o, frz_d, oK_zn, reduceCtorEq]
  · rintro ⟨left, acc⟩ ⟨ha, hTI, hgo⟩
    simp only at ha hTI hgo
    have ht : List.take acc.length (List.map nD acc) = List.map nD acc := List.take_of_length_le (by simp)
    have ha62 : acc.length < 2 ^ 62 := by omega
    have hbl := bst_low hn hg hTI
    simp (implicitDefEqProofs := false) (dsimp := false) only [slots, ↓optK_some, ↓rwK_mk_, ↓aw_cond, ↓aw_seq, ↓aw_reg, ↓Qseq_n, ↓ops_nil, ↓ops_cons, ↓eval_tmp, ↓put_some, ↓bK_b, ↓lenK_o, ↓binE_i, ↓bi_lss, ↓op_move, ↓op_bin, ↓op_len, ↓sl24, List.getD_cons_zero, List.getD_cons_succ, List.set_cons_zero, List.set_cons_succ, Nat.reduceAdd, Nat.reduceSub, Nat.reduceMul, List.replicate, evK_go, reduceIte, Nat.reduceEqDiff, Nat.reduceLT, List.foldl_cons, List.foldl_nil, Int.ofNat_lt]
    refine cdK_dec (fun h => ?_) (fun h => ?_)
    rotate_left
    · have e : m - acc.length = 0 := by omega
      rw [hgo, e]
      simp (implicitDefEqProofs := false) (dsimp := false) only [topoGo, ht, ↓optK_some, ↓rwK_mk_, ↓aw_seq, ↓aw_exit, ↓aw_ret, ↓aw_reg, ↓Qseq_n, ↓Qseq_x, ↓Qblk_x, ↓Qret_r, ↓ops_nil, ↓ops_cons, ↓eval_tmp, ↓eval_bool, ↓put_some, ↓op_move, ↓op_assign, ↓td_d, ↓td_o, ↓ret_2, ↓row_xs, List.getD_cons_zero, List.getD_cons_succ, List.set_cons_zero, List.set_cons_succ, Nat.reduceAdd, Nat.reduceSub, Nat.reduceMul, evK_go, reduceIte, Nat.reduceEqDiff, Nat.reduceLT, Option.getD_some, List.drop_zero]
      rfl
    have hst := go_step hTI (by omega)
    rw [hst] at hgo
    simp (implicitDefEqProofs := false) (dsimp := false) only [↓aw_seq, ↓aw_block, ↓aw_skip, ↓aw_loop, ↓aw_reg, ↓Qseq_n, ↓ops_nil, ↓ops_cons, ↓eval_tmp, ↓eval_int, ↓put_some, ↓binE_i, ↓bi_sub, ↓in_i64, ↓op_move, ↓op_assign, ↓op_bin, List.getD_cons_zero, List.getD_cons_succ, List.set_cons_zero, List.set_cons_succ, Nat.reduceAdd, Nat.reduceSub, Nat.reduceMul, evK_go, reduceIte, Nat.reduceEqDiff, Nat.reduceLT]
    refine ⟨by omega, ?_⟩
    refine loopW (fun c : Nat => { tm := slots 59 [(0, .d (I .i64 (m : Int))), (1, .d (.l (L.map lnN))), (6, .o 0 0 acc.length), (7, .d (I .i64 (bst (freeR L acc) m c))), (8, .d (I .i64 ((m : Int) - 1 - c)))], bx := [], rw := [some ⟨1, acc.map nD⟩] })
      (fun c => c ≤ m) (fun c => m - c) 0 (by simp) ?_ ?_
    · refine Wkn.of [] [some 0] ?_
      simp (implicitDefEqProofs := false) (dsimp := false) only [bst, Int.sub_zero, List.getD_cons_zero, List.set_cons_zero, List.set_cons_succ, Bool.and_self, Nat.reduceAdd, Nat.reduceSub, Nat.reduceMul, List.replicate, evK_go, reduceIte, Nat.reduceEqDiff, Nat.reduceLT, and_self, List.foldl_cons, List.foldl_nil, Int.cast_ofNat_Int, slots, wkL_nil, wkL_cons, wkB_nil, wkR_nil, wkR_some, wkV_j, wkV_d, wkV_o, frz_d, oK_zs, reduceCtorEq]
    · intro c hc
      simp (implicitDefEqProofs := false) (dsimp := false) only [slots, ↓aw_cond, ↓aw_seq, ↓aw_reg, ↓Qseq_n, ↓ops_nil, ↓ops_cons, ↓eval_tmp, ↓eval_int, ↓put_some, ↓bK_b, ↓binE_i, ↓bi_geq, ↓op_move, ↓op_bin, List.getD_cons_zero, List.getD_cons_succ, List.set_cons_zero, List.set_cons_succ, Nat.reduceAdd, Nat.reduceSub, Nat.reduceMul, List.replicate, evK_go, reduceIte, Nat.reduceEqDiff, Nat.reduceLT, List.foldl_cons, List.foldl_nil]
      refine cdK_dec (fun h2 => ?_) (fun h2 => ?_)
      · have hcm : c < m := by omega
        obtain ⟨i, hi⟩ : ∃ i, i = m - c - 1 := ⟨_, rfl⟩
        have ei : (m : Int) - 1 - (c : Int) = (i : Int) := by omega
        have hbs : bst (freeR L acc) m (c + 1) = if freeR L acc i = true then (i : Int) else bst (freeR L acc) m c := by rw [hi]; rfl
        simp (implicitDefEqProofs := false) (dsimp := false) only [ei, ht, hasN_call, ha62, ↓optK_some, ↓rwK_mk_, ↓aw_seq, ↓aw_block, ↓aw_skip, ↓aw_loop, ↓aw_reg, ↓Qseq_n, ↓ops_nil, ↓ops_cons, ↓eval_tmp, ↓eval_int, ↓eval_func, ↓put_some, ↓bK_b, ↓op_move, ↓op_assign, ↓op_not, ↓op_call, isD_d, isD_o, ↓fnK_f, ↓call_H, ↓callK_H, ↓allT_nil, ↓allT_cons, ↓td_d, ↓td_o, ↓row_xs, List.getD_cons_zero, List.getD_cons_succ, List.set_cons_zero, List.set_cons_succ, List.append_nil, List.all_cons, List.all_nil, Bool.and_true, Bool.true_and, Bool.and_self, Bool.and_false, Bool.false_or, Nat.reduceAdd, Nat.reduceSub, Nat.reduceMul, evK_go, reduceIte, decide_true, Nat.reduceEqDiff, Nat.reduceLT, and_self, true_and, and_true, List.drop_zero, Int.natCast_nonneg]
        (repeat refine OrH.l ?_)
        refine ⟨rfl, ?_⟩
        refine loopW (fun k : Nat => { tm := slots 59 [(0, .d (I .i64 (m : Int))), (1, .d (.l (L.map lnN))), (6, .o 0 0 acc.length), (7, .d (I .i64 (bst (freeR L acc) m c))), (8, .d (I .i64 (i : Int))), (9, .d (Bo (freeR (L.take k) acc i))), (10, .d (I .i64 k))], bx := [], rw := [some ⟨1, acc.map nD⟩] })
          (fun k => k ≤ L.length) (fun k => L.length - k) 0 (by simp) ?_ ?_
        · refine Wkn.of [] [some 0] ?_
          have e0 : freeR [] acc i = !decide (i ∈ acc) := by unfold freeR; simp
          simp (implicitDefEqProofs := false) (dsimp := false) only [e0, List.getD_cons_zero, List.set_cons_zero, List.set_cons_succ, Bool.and_self, Nat.reduceAdd, Nat.reduceSub, Nat.reduceMul, List.replicate, evK_go, reduceIte, Nat.reduceEqDiff, Nat.reduceLT, and_self, List.take_zero, List.foldl_cons, List.foldl_nil, Int.cast_ofNat_Int, slots, wkL_nil, wkL_cons, wkB_nil, wkR_nil, wkR_some, wkV_j, wkV_d, wkV_o, frz_d, oK_zs, reduceCtorEq]
        · intro k hk
          simp (implicitDefEqProofs := false) (dsimp := false) only [slots, ↓aw_cond, ↓aw_seq, ↓aw_reg, ↓Qseq_n, ↓ops_nil, ↓ops_cons, ↓eval_tmp, ↓put_some, ↓bK_b, ↓lenK_l, ↓binE_i, ↓bi_lss, ↓op_move, ↓op_bin, ↓op_len, ↓sl22, List.getD_cons_zero, List.getD_cons_succ, List.set_cons_zero, List.set_cons_succ, List.length_map, Nat.reduceAdd, Nat.reduceSub, Nat.reduceMul, List.replicate, evK_go, reduceIte, Nat.reduceEqDiff, Nat.reduceLT, List.foldl_cons, List.foldl_nil, Int.ofNat_lt]
          refine cdK_dec (fun h3 => ?_) (fun h3 => ?_)
          · have hkL : k < L.length := by omega
            have hsn : freeR (L.take (k + 1)) acc i = (freeR (L.take k) acc i && (!decide ((L.getD k default).2 = i) || decide ((L.getD k default).1 ∈ acc))) := by
              unfold freeR
              rw [take_succ_getD hkL, List.all_append, Bool.and_assoc]
              simp
            generalize hab : L.getD k default = p at hsn
            obtain ⟨a, b⟩ := p
            simp only at hsn
            generalize freeR (L.take k) acc i = t at hsn ⊢
            cases t with
            | false =>
              rw [Bool.false_and] at hsn
              simp (implicitDefEqProofs := false) (dsimp := false) only [↓cdK_false, ↓gdK_junk, ↓gdK_t, ↓gval_mk, ↓gvL_zero, ↓gvL_succ, ↓aw_seq, ↓aw_block, ↓aw_skip, ↓aw_reg, ↓Qseq_n, ↓Qblk_n, ↓ops_nil, ↓ops_cons, ↓ops_guard, ↓eval_tmp, ↓eval_int, ↓eval_bool, ↓put_some, ↓bK_b, ↓binE_i, ↓bi_add, ↓in_i64, ↓op_move, ↓op_assign, ↓op_pick, ↓op_bin, ↓st_tm, List.getD_cons_zero, List.getD_cons_succ, List.set_cons_zero, List.set_cons_succ, Nat.reduceAdd, Nat.reduceSub, Nat.reduceMul, evK_go, reduceIte, Nat.reduceEqDiff, Nat.reduceLT]
              refine ⟨by omega, k + 1, by omega, by omega, ?_⟩
              refine Wkn.of [] [some 0] ?_
              simp (implicitDefEqProofs := false) (dsimp := false) only [hsn, List.getD_cons_zero, List.set_cons_zero, List.set_cons_succ, Bool.and_self, Nat.reduceAdd, Nat.reduceSub, Nat.reduceMul, List.replicate, evK_go, reduceIte, Nat.reduceEqDiff, Nat.reduceLT, and_self, List.foldl_cons, List.foldl_nil, Int.cast_ofNat_Int, Int.natCast_add, slots, wkL_nil, wkL_cons, wkB_nil, wkR_nil, wkR_some, wkV_j, wkV_d, wkV_o, frz_d, oK_zs, reduceCtorEq]
            | true =>
              rw [Bool.true_and] at hsn
              simp (implicitDefEqProofs := false) (dsimp := false) only [hkL, hab, lnN, ↓cdK_true, ↓cdK_not, ↓gdK_t, ↓gdK_f, ↓gval_mk, ↓gvL_zero, ↓gvL_succ, ↓atK_H, ↓atH_map, ↓aw_seq, ↓aw_block, ↓aw_skip, ↓aw_reg, ↓Qseq_n, ↓ops_cons, ↓ops_guard, ↓eval_tmp, ↓put_some, ↓iK_i, ↓binE_i, ↓bi_neq, ↓ldK_q, ↓faK_q, ↓iaK_l, ↓op_move, ↓op_load, ↓op_bin, ↓op_fa, ↓op_ia, ↓st_tm, ↓cells_s, ↓hd_cons, ↓ty3, ↓sl22, ↓ty41, ↓fd41_1, List.getD_cons_zero, List.getD_cons_succ, List.set_cons_zero, List.set_cons_succ, List.length_cons, List.length_nil, Bool.true_and, Nat.reduceAdd, Nat.reduceSub, Nat.reduceMul, Nat.zero_add, Int.toNat_natCast, evK_go, reduceIte, decide_true, Nat.reduceEqDiff, Nat.reduceLT, true_and, Int.zero_add, List.drop_zero, List.drop_succ_cons, Int.natCast_nonneg, Int.natCast_inj]
              cases hbi : decide (b = i) with
              | false =>
                rw [hbi] at hsn
                rw [Bool.not_false, Bool.true_or] at hsn
                simp (implicitDefEqProofs := false) (dsimp := false) only [↓cdK_true, ↓cdK_false, ↓gdK_t, ↓gdK_f, ↓gval_mk, ↓gvL_zero, ↓gvL_succ, ↓aw_reg, ↓Qseq_n, ↓Qblk_n, ↓ops_nil, ↓ops_cons, ↓ops_guard, ↓eval_tmp, ↓eval_int, ↓eval_bool, ↓put_some, ↓bK_b, ↓binE_i, ↓bi_add, ↓in_i64, ↓op_move, ↓op_assign, ↓op_pick, ↓op_bin, ↓st_tm, List.getD_cons_zero, List.getD_cons_succ, List.set_cons_zero, List.set_cons_succ, Nat.reduceAdd, Nat.reduceSub, Nat.reduceMul, evK_go, reduceIte, Bool.not_false, Nat.reduceEqDiff, Nat.reduceLT]
                refine ⟨by omega, k + 1, by omega, by omega, ?_⟩
                refine Wkn.of [] [some 0] ?_
                simp (implicitDefEqProofs := false) (dsimp := false) only [hsn, List.getD_cons_zero, List.set_cons_zero, List.set_cons_succ, Bool.and_self, Nat.reduceAdd, Nat.reduceSub, Nat.reduceMul, List.replicate, evK_go, reduceIte, Nat.reduceEqDiff, Nat.reduceLT, and_self, List.foldl_cons, List.foldl_nil, Int.cast_ofNat_Int, Int.natCast_add, slots, wkL_nil, wkL_cons, wkB_nil, wkR_nil, wkR_some, wkV_j, wkV_d, wkV_o, frz_d, oK_zs, reduceCtorEq]
              | true =>
                rw [hbi] at hsn
                rw [Bool.not_true, Bool.false_or] at hsn
                simp (implicitDefEqProofs := false) (dsimp := false) only [hkL, hab, lnN, ht, hasN_call, ha62, ↓cdK_true, ↓cdK_false, ↓gdK_t, ↓gdK_f, ↓gval_mk, ↓gvL_zero, ↓gvL_succ, ↓optK_some, ↓rwK_mk_, ↓atK_H, ↓atH_map, ↓aw_reg, ↓Qseq_n, ↓Qblk_n, ↓ops_nil, ↓ops_cons, ↓ops_guard, ↓eval_tmp, ↓eval_int, ↓eval_func, ↓put_some, ↓bK_b, ↓iK_i, ↓binE_i, ↓bi_add, ↓in_i64, ↓ldK_q, ↓faK_q, ↓iaK_l, ↓op_move, ↓op_assign, ↓op_pick, ↓op_load, ↓op_bin, ↓op_fa, ↓op_ia, ↓op_call, isD_d, isD_o, ↓fnK_f, ↓call_H, ↓callK_H, ↓allT_nil, ↓allT_cons, ↓td_d, ↓td_o, ↓st_tm, ↓row_xs, ↓cells_s, ↓hd_cons, ↓ty3, ↓sl22, ↓ty41, ↓fd41_0, List.getD_cons_zero, List.getD_cons_succ, List.set_cons_zero, List.set_cons_succ, List.append_nil, List.length_cons, List.length_nil, List.all_cons, List.all_nil, Bool.and_true, Bool.true_and, Bool.and_self, Bool.and_false, Bool.false_or, Nat.reduceAdd, Nat.reduceSub, Nat.reduceMul, Nat.zero_add, Int.toNat_natCast, evK_go, reduceIte, Bool.not_true, Nat.reduceEqDiff, Nat.reduceLT, and_self, true_and, and_true, Int.zero_add, List.drop_zero, Int.natCast_nonneg]
                (repeat refine OrH.l ?_)
                refine ⟨rfl, by omega, k + 1, by omega, by omega, ?_⟩
                refine Wkn.of [] [some 0] ?_
                simp (implicitDefEqProofs := false) (dsimp := false) only [hsn, List.getD_cons_zero, List.set_cons_zero, List.set_cons_succ, Bool.and_self, Nat.reduceAdd, Nat.reduceSub, Nat.reduceMul, List.replicate, evK_go, reduceIte, Nat.reduceEqDiff, Nat.reduceLT, and_self, List.foldl_cons, List.foldl_nil, Int.cast_ofNat_Int, Int.natCast_add, slots, wkL_nil, wkL_cons, wkB_nil, wkR_nil, wkR_some, wkV_j, wkV_d, wkV_o, frz_d, oK_zs, reduceCtorEq]
          · obtain rfl : k = L.length := by omega
            rw [List.take_length]
            simp (implicitDefEqProofs := false) (dsimp := false) only [↓optK_some, ↓rwK_mk_, ↓aw_cond, ↓aw_seq, ↓aw_exit, ↓aw_ret, ↓aw_reg, ↓Qseq_n, ↓Qseq_x, ↓Qblk_x, ↓Qret_r, ↓ops_nil, ↓ops_cons, ↓eval_tmp, ↓eval_int, ↓eval_bool, ↓put_some, ↓bK_b, ↓binE_i, ↓bi_sub, ↓bi_lss, ↓in_i64, ↓op_move, ↓op_assign, ↓op_bin, ↓td_d, ↓td_o, ↓ret_2, ↓row_xs, ↓take_map, List.getD_cons_zero, List.getD_cons_succ, List.set_cons_zero, List.set_cons_succ, Nat.reduceAdd, Nat.reduceSub, Nat.reduceMul, evK_go, reduceIte, decide_false, Nat.reduceEqDiff, Nat.reduceLT, Nat.lt_irrefl, List.drop_zero]
            cases hf : freeR L acc i with
            | true =>
              rw [hf, if_pos rfl] at hbs
              simp (implicitDefEqProofs := false) (dsimp := false) only [↓cdK_true, ↓aw_reg, ↓Qseq_n, ↓Qblk_n, ↓ops_nil, ↓ops_cons, ↓eval_tmp, ↓eval_int, ↓put_some, ↓binE_i, ↓bi_sub, ↓in_i64, ↓op_move, ↓op_assign, ↓op_bin, List.getD_cons_zero, List.getD_cons_succ, List.set_cons_zero, List.set_cons_succ, Nat.reduceAdd, Nat.reduceSub, Nat.reduceMul, evK_go, reduceIte, Nat.reduceEqDiff, Nat.reduceLT]
              have ec : (i : Int) - 1 = (m : Int) - 1 - ((c + 1 : Nat) : Int) := by omega
              refine ⟨by omega, c + 1, by omega, by omega, ?_⟩
              refine Wkn.of [] [some 0] ?_
              simp (implicitDefEqProofs := false) (dsimp := false) only [hbs, ec, List.getD_cons_zero, List.set_cons_zero, List.set_cons_succ, Bool.and_self, Nat.reduceAdd, Nat.reduceSub, Nat.reduceMul, List.replicate, evK_go, reduceIte, Nat.reduceEqDiff, Nat.reduceLT, and_self, List.foldl_cons, List.foldl_nil, Int.cast_ofNat_Int, Int.natCast_add, slots, wkL_nil, wkL_cons, wkB_nil, wkR_nil, wkR_some, wkV_j, wkV_d, wkV_o, frz_d, oK_zs, reduceCtorEq]
            | false =>
              rw [hf, if_neg (by decide)] at hbs
              simp (implicitDefEqProofs := false) (dsimp := false) only [↓cdK_false, ↓aw_skip, ↓aw_reg, ↓Qseq_n, ↓Qblk_n, ↓ops_nil, ↓ops_cons, ↓eval_tmp, ↓eval_int, ↓put_some, ↓binE_i, ↓bi_sub, ↓in_i64, ↓op_move, ↓op_assign, ↓op_bin, List.getD_cons_zero, List.getD_cons_succ, List.set_cons_zero, List.set_cons_succ, Nat.reduceAdd, Nat.reduceSub, Nat.reduceMul, evK_go, reduceIte, Nat.reduceEqDiff, Nat.reduceLT]
              have ec : (i : Int) - 1 = (m : Int) - 1 - ((c + 1 : Nat) : Int) := by omega
              refine ⟨by omega, c + 1, by omega, by omega, ?_⟩
              refine Wkn.of [] [some 0] ?_
              simp (implicitDefEqProofs := false) (dsimp := false) only [hbs, ec, List.getD_cons_zero, List.set_cons_zero, List.set_cons_succ, Bool.and_self, Nat.reduceAdd, Nat.reduceSub, Nat.reduceMul, List.replicate, evK_go, reduceIte, Nat.reduceEqDiff, Nat.reduceLT, and_self, List.foldl_cons, List.foldl_nil, Int.cast_ofNat_Int, Int.natCast_add, slots, wkL_nil, wkL_cons, wkB_nil, wkR_nil, wkR_some, wkV_j, wkV_d, wkV_o, frz_d, oK_zs, reduceCtorEq]
      · obtain rfl : c = m := by omega
        rw [hbl]
        by_cases hp : pts (freeS (outS c L) left) = []
        · rw [if_pos hp] at hgo ⊢
          have hneg : decide ((-1 : Int) < 0) = true := by decide
          simp (implicitDefEqProofs := false) (dsimp := false) only [hneg, hgo, ↓cdK_true, ↓optK_some, ↓rwK_mk_, ↓aw_cond, ↓aw_seq, ↓aw_exit, ↓aw_ret, ↓aw_reg, ↓Qseq_n, ↓Qseq_x, ↓Qseq_r, ↓Qblk_r, ↓Qblk_x, ↓Qret_r, ↓ops_nil, ↓ops_cons, ↓eval_tmp, ↓eval_int, ↓eval_bool, ↓eval_nil, ↓put_some, ↓bK_b, ↓binE_i, ↓bi_lss, ↓op_move, ↓op_assign, ↓op_bin, ↓td_d, ↓td_nl, ↓td_o, ↓ret_2, ↓row_xs, ↓take_map, List.getD_cons_zero, List.getD_cons_succ, List.set_cons_zero, List.set_cons_succ, List.map_nil, Nat.reduceAdd, Nat.reduceSub, Nat.reduceMul, evK_go, reduceIte, Nat.reduceEqDiff, Nat.reduceLT, Option.getD_none, List.drop_zero]
          rfl
        · rw [if_neg hp] at hgo ⊢
          have hnx := hTI.next hn hg ((pts_mem _ _).1 (low_mem hp)).2
          have hneg : decide (((low (freeS (outS c L) left) : Nat) : Int) < 0) = false := decide_eq_false (by omega)
          simp (implicitDefEqProofs := false) (dsimp := false) only [hneg, ht, ↓cdK_false, ↓optK_some, ↓rwK_mk_, ↓aw_cond, ↓aw_seq, ↓aw_exit, ↓aw_ret, ↓aw_skip, ↓aw_reg, ↓Qseq_n, ↓Qseq_x, ↓Qblk_n, ↓Qblk_x, ↓Qret_r, ↓ops_nil, ↓ops_cons, ↓eval_tmp, ↓eval_int, ↓eval_bool, ↓put_some, ↓bK_b, ↓dK_d, ↓binE_i, ↓bi_lss, ↓op_move, ↓op_assign, ↓op_bin, ↓op_append, ↓allD_nil, ↓allD_cons, ↓td_d, ↓td_o, ↓ret_2, ↓app_mk, ↓row_sz, ↓row_xs, kill_d, kill_j, kill_o, ↓cells_c, ↓one_i, ↓ap_, ↓ap_o, ↓src_l, ↓bs_, ↓op_bs, ↓bsL_f, ↓stored_mk, ↓sl_nil, ↓sl_cons, ↓sT_move, ↓sT_assign, ↓sT_bs, ↓sT_call, ↓vsz_int, ↓inO_1, ↓fm_nil, ↓fm_cons, ↓ty3, ↓zb3, ↓sl24, List.getD_cons_zero, List.getD_cons_succ, List.set_cons_zero, List.set_cons_succ, List.map_cons, List.map_nil, List.length_cons, List.length_nil, List.length_map, List.all_cons, List.all_nil, Bool.true_and, Bool.and_self, Bool.or_false, Nat.reduceAdd, Nat.reduceSub, Nat.reduceMul, Nat.zero_add, evK_go, reduceIte, Nat.reduceEqDiff, Nat.reduceLT, and_self, true_and, Int.zero_add, List.drop_zero]
          have hll : (acc ++ [low (freeS (outS c L) left)]).length = acc.length + 1 := by simp
          refine ⟨by decide, ⟨fun _ => trivial, by omega, by omega⟩, ⟨_, acc ++ [low (freeS (outS c L) left)]⟩, ⟨by simp (implicitDefEqProofs := false) (dsimp := false) only [hll]; omega, hnx, by simp (implicitDefEqProofs := false) (dsimp := false) only [hll]; exact hgo⟩, by simp (implicitDefEqProofs := false) (dsimp := false) only [hll]; omega, ?_⟩
          refine Wkn.of [] [some 0] ?_
          simp (implicitDefEqProofs := false) (dsimp := false) only [hll, List.map_append, nD, List.getD_cons_zero, List.set_cons_zero, List.set_cons_succ, List.map_cons, List.map_nil, Bool.and_self, Nat.reduceAdd, Nat.reduceSub, Nat.reduceMul, List.replicate, evK_go, reduceIte, Nat.reduceEqDiff, Nat.reduceLT, and_self, List.foldl_cons, List.foldl_nil, slots, wkL_nil, wkL_cons, wkB_nil, wkR_nil, wkR_some, wkV_j, wkV_d, wkV_o, frz_d, oK_zs, reduceCtorEq]
theorem rord_call (m : Nat) (L : List (Nat × Nat)) (pure : Bool) (σ : St) (dst : Option Tmp) (K : St → Prop) : CallH Tryd.prog 21 [I .i64 (m : Int), .l (L.map lnN)] pure σ dst (.mk : Hid K) = OrH (((1 ≤ m ∧ m ≤ 8) ∧ L.length < 2 ^ 62 ∧ Good m L) ∧ (pure || D.flat (.t [.l (((topoO m L).getD []).map nD), Bo (topoO m L).isSome])) = true ∧ evK (σ.put dst (.d (.t [.l (((topoO m L).getD []).map nD), Bo (topoO m L).isSome]))) (.mk : Hid K)) (.mk : Hid (CallH Tryd.prog 21 [I .i64 (m : Int), .l (L.map lnN)] pure σ dst (.mk : Hid K))) := CallH.eq (rord_spec m L) pure σ dst K
theorem rord_callQ (m : Nat) (L : List (Nat × Nat)) (pure : Bool) (C : V → Prop) : CallQ Tryd.prog 21 [I .i64 (m : Int), .l (L.map lnN)] pure (.mk : Hid C) = OrH (((1 ≤ m ∧ m ≤ 8) ∧ L.length < 2 ^ 62 ∧ Good m L) ∧ (pure || D.flat (.t [.l (((topoO m L).getD []).map nD), Bo (topoO m L).isSome])) = true ∧ evK (V.d (.t [.l (((topoO m L).getD []).map nD), Bo (topoO m L).isSome])) (.mk : Hid C)) (.mk : Hid (CallQ Tryd.prog 21 [I .i64 (m : Int), .l (L.map lnN)] pure (.mk : Hid C))) := CallQ.eq (rord_spec m L) pure C
/-- The most lines on a way to a point, by recursion. -/
theorem rdeep_spec (L : List (Nat × Nat)) (m : Nat) (d : List Nat) (hL : L.length < 2 ^ 62) (hg : Good m L) (hd : IsDeep L fun j => d.getD j default) (hb : ∀ i, i < m → d.getD i default < m) (h8 : m ≤ 8) :
    ∀ (q i : Nat), i < m → d.getD i default = q → FnD Tryd.prog 22 [.l (L.map lnN), I .i64 (i : Int)] (I .i64 (q : Int)) := by
  intro q
  induction q using Nat.strongRecOn with
  | _ q ih =>
  intro i hi hq
  refine FnD.go Tryd.func22 rfl rfl Tryd.results22 Tryd.ntmps22 ?_
  simp (implicitDefEqProofs := false) (dsimp := false) only [↓aw_seq, ↓aw_block, ↓aw_loop, ↓aw_reg, ↓Qseq_n, ↓ops_nil, ↓ops_cons, ↓eval_int, ↓put_some, ↓op_assign, List.set_cons_zero, List.set_cons_succ, List.cons_append, List.nil_append, List.map_cons, List.map_nil, List.length_cons, List.length_nil, Nat.reduceAdd, Nat.reduceSub, Nat.reduceMul, Nat.zero_add, List.replicate, evK_go, reduceIte, Nat.reduceEqDiff, Nat.reduceLT, Int.zero_add]
  refine loopW (fun x : Nat × Int => { tm := slots 34 [(0, .d (.l (L.map lnN))), (1, .d (I .i64 (i : Int))), (5, .d (I .i64 (x.2 + 1))), (6, .d (I .i64 x.1))], bx := [], rw := [] })
    (fun x => x.1 ≤ L.length ∧ MostK d (L.take x.1) i x.2) (fun x => L.length - x.1) (0, -1) ⟨by simp, ⟨by simp, .inl rfl⟩⟩ ?_ ?_
  · have e : (-1 : Int) + 1 = 0 := by decide
    refine Wkn.of [] [] ?_; simp (implicitDefEqProofs := false) (dsimp := false) only [e, List.set_cons_zero, List.set_cons_succ, Bool.and_self, Nat.reduceAdd, Nat.reduceSub, Nat.reduceMul, List.replicate, evK_go, reduceIte, Nat.reduceEqDiff, Nat.reduceLT, and_self, List.foldl_cons, List.foldl_nil, Int.cast_ofNat_Int, slots, wkL_nil, wkL_cons, wkB_nil, wkR_nil, wkV_j, wkV_d, frz_d, reduceCtorEq]
  · rintro ⟨k, z⟩ ⟨hk, hz⟩
    simp only at hk hz
    simp (implicitDefEqProofs := false) (dsimp := false) only [slots, ↓aw_cond, ↓aw_seq, ↓aw_reg, ↓Qseq_n, ↓ops_nil, ↓ops_cons, ↓eval_tmp, ↓put_some, ↓bK_b, ↓lenK_l, ↓binE_i, ↓bi_lss, ↓op_move, ↓op_bin, ↓op_len, ↓sl22, List.getD_cons_zero, List.getD_cons_succ, List.set_cons_zero, List.set_cons_succ, List.length_map, Nat.reduceAdd, Nat.reduceSub, Nat.reduceMul, List.replicate, evK_go, reduceIte, Nat.reduceEqDiff, Nat.reduceLT, List.foldl_cons, List.foldl_nil, Int.ofNat_lt]
    refine cdK_dec (fun h2 => ?_) (fun h2 => ?_)
    · have hkL : k < L.length := by omega
      have hmem := getD_mem hkL
      have hp := hg _ hmem
      have hnx := hz.next (L.getD k default)
      rw [← take_succ_getD hkL] at hnx
      generalize hab : L.getD k default = p at hp hnx hmem
      obtain ⟨a, b⟩ := p
      simp only at hp hnx
      have hzb : z < m := by
        rcases hz.2 with e | ⟨p, hp, _, e⟩
        · omega
        · rw [e]; exact_mod_cast hb _ (hg p (List.mem_of_mem_take hp)).1
      have hz1 : -1 ≤ z := by
        rcases hz.2 with e | ⟨p, hp, _, e⟩ <;> omega
      by_cases hbi : b = i
      · subst hbi
        have hda := hd.1 a b hmem
        simp only at hda
        have hc := CallH.eq0 (ih (d.getD a default) (by omega) a (by omega) rfl)
        have hx := hb a (by omega)
        simp (implicitDefEqProofs := false) (dsimp := false) only [hkL, hab, lnN, ↓cdK_true, ↓atK_H, ↓atH_map, ↓aw_cond, ↓aw_seq, ↓aw_block, ↓aw_skip, ↓aw_reg, ↓Qseq_n, ↓ops_nil, ↓ops_cons, ↓eval_tmp, ↓eval_func, ↓put_some, ↓bK_b, ↓iK_i, ↓binE_i, ↓bi_eql, ↓ldK_q, ↓faK_q, ↓iaK_l, ↓op_move, ↓op_load, ↓op_bin, ↓op_fa, ↓op_ia, ↓op_call, isD_d, ↓fnK_f, ↓call_H, ↓callK_H, ↓allT_nil, ↓allT_cons, ↓td_d, ↓cells_s, ↓hd_cons, ↓ty3, ↓sl22, ↓ty41, ↓fd41_0, ↓fd41_1, List.getD_cons_zero, List.getD_cons_succ, List.set_cons_zero, List.set_cons_succ, List.append_nil, List.length_cons, List.length_nil, List.all_cons, List.all_nil, Bool.true_and, Bool.and_self, Nat.reduceAdd, Nat.reduceSub, Nat.reduceMul, Nat.zero_add, Int.toNat_natCast, evK_go, reduceIte, decide_true, Nat.reduceEqDiff, Nat.reduceLT, and_self, true_and, Int.zero_add, List.drop_zero, List.drop_succ_cons, Int.natCast_nonneg]
        have e5 : (1 : Int) + ((d.getD a default : Nat) : Int) = ((d.getD a default : Nat) : Int) + 1 := by omega
        simp (implicitDefEqProofs := false) (dsimp := false) only [hc, e5, ↓aw_cond, ↓aw_seq, ↓aw_reg, ↓Qseq_n, ↓ops_nil, ↓ops_cons, ↓eval_tmp, ↓eval_int, ↓put_some, ↓bK_b, ↓binE_i, ↓bi_add, ↓bi_gtr, ↓in_i64, ↓op_move, ↓op_assign, ↓op_bin, List.getD_cons_zero, List.getD_cons_succ, List.set_cons_zero, List.set_cons_succ, Bool.true_and, Bool.true_or, Nat.reduceAdd, Nat.reduceSub, Nat.reduceMul, evK_go, reduceIte, Nat.reduceEqDiff, Nat.reduceLT, true_and]
        (repeat refine OrH.l ?_)
        refine ⟨by omega, cdK_dec (fun h3 => ?_) (fun h3 => ?_)⟩
        · rw [if_pos ⟨rfl, by omega⟩] at hnx
          simp (implicitDefEqProofs := false) (dsimp := false) only [↓aw_reg, ↓Qseq_n, ↓Qblk_n, ↓ops_nil, ↓ops_cons, ↓eval_tmp, ↓eval_int, ↓put_some, ↓binE_i, ↓bi_add, ↓in_i64, ↓op_move, ↓op_assign, ↓op_bin, List.getD_cons_zero, List.getD_cons_succ, List.set_cons_zero, List.set_cons_succ, Nat.reduceAdd, Nat.reduceSub, Nat.reduceMul, evK_go, reduceIte, Nat.reduceEqDiff, Nat.reduceLT]
          refine ⟨by omega, ⟨k + 1, _⟩, ⟨by omega, hnx⟩, by simp only; omega, ?_⟩
          refine Wkn.of [] [] ?_; simp (implicitDefEqProofs := false) (dsimp := false) only [List.set_cons_zero, List.set_cons_succ, Bool.and_self, Nat.reduceAdd, Nat.reduceSub, Nat.reduceMul, List.replicate, evK_go, reduceIte, Nat.reduceEqDiff, Nat.reduceLT, and_self, List.foldl_cons, List.foldl_nil, Int.cast_ofNat_Int, Int.natCast_add, slots, wkL_nil, wkL_cons, wkB_nil, wkR_nil, wkV_j, wkV_d, frz_d, reduceCtorEq]
        · rw [if_neg (fun e => h3 (by omega))] at hnx
          simp (implicitDefEqProofs := false) (dsimp := false) only [↓aw_skip, ↓aw_reg, ↓Qseq_n, ↓Qblk_n, ↓ops_nil, ↓ops_cons, ↓eval_tmp, ↓eval_int, ↓put_some, ↓binE_i, ↓bi_add, ↓in_i64, ↓op_move, ↓op_assign, ↓op_bin, List.getD_cons_zero, List.getD_cons_succ, List.set_cons_zero, List.set_cons_succ, Nat.reduceAdd, Nat.reduceSub, Nat.reduceMul, evK_go, reduceIte, Nat.reduceEqDiff, Nat.reduceLT]
          refine ⟨by omega, ⟨k + 1, z⟩, ⟨by omega, hnx⟩, by simp only; omega, ?_⟩
          refine Wkn.of [] [] ?_; simp (implicitDefEqProofs := false) (dsimp := false) only [List.set_cons_zero, List.set_cons_succ, Bool.and_self, Nat.reduceAdd, Nat.reduceSub, Nat.reduceMul, List.replicate, evK_go, reduceIte, Nat.reduceEqDiff, Nat.reduceLT, and_self, List.foldl_cons, List.foldl_nil, Int.cast_ofNat_Int, Int.natCast_add, slots, wkL_nil, wkL_cons, wkB_nil, wkR_nil, wkV_j, wkV_d, frz_d, reduceCtorEq]
      · have hbi' : decide (b = i) = false := decide_eq_false hbi
        rw [if_neg (fun e => hbi e.1)] at hnx
        simp (implicitDefEqProofs := false) (dsimp := false) only [hkL, hab, lnN, hbi', ↓cdK_false, ↓atK_H, ↓atH_map, ↓aw_cond, ↓aw_seq, ↓aw_block, ↓aw_skip, ↓aw_reg, ↓Qseq_n, ↓Qblk_n, ↓ops_nil, ↓ops_cons, ↓eval_tmp, ↓eval_int, ↓put_some, ↓bK_b, ↓iK_i, ↓binE_i, ↓bi_add, ↓bi_eql, ↓in_i64, ↓ldK_q, ↓faK_q, ↓iaK_l, ↓op_move, ↓op_assign, ↓op_load, ↓op_bin, ↓op_fa, ↓op_ia, ↓cells_s, ↓hd_cons, ↓ty3, ↓sl22, ↓ty41, ↓fd41_1, List.getD_cons_zero, List.getD_cons_succ, List.set_cons_zero, List.set_cons_succ, List.length_cons, List.length_nil, Bool.true_and, Nat.reduceAdd, Nat.reduceSub, Nat.reduceMul, Nat.zero_add, Int.toNat_natCast, evK_go, reduceIte, decide_true, Nat.reduceEqDiff, Nat.reduceLT, true_and, Int.zero_add, List.drop_zero, List.drop_succ_cons, Int.natCast_nonneg, Int.natCast_inj]
        refine ⟨by omega, ⟨k + 1, z⟩, ⟨by omega, hnx⟩, by simp only; omega, ?_⟩
        refine Wkn.of [] [] ?_; simp (implicitDefEqProofs := false) (dsimp := false) only [List.set_cons_zero, List.set_cons_succ, Bool.and_self, Nat.reduceAdd, Nat.reduceSub, Nat.reduceMul, List.replicate, evK_go, reduceIte, Nat.reduceEqDiff, Nat.reduceLT, and_self, List.foldl_cons, List.foldl_nil, Int.cast_ofNat_Int, Int.natCast_add, slots, wkL_nil, wkL_cons, wkB_nil, wkR_nil, wkV_j, wkV_d, frz_d, reduceCtorEq]
    · obtain rfl : k = L.length := by omega
      rw [List.take_length] at hz
      have hfin := hz.done hd
      have e : z + 1 = (q : Int) := by rw [← hq]; exact hfin.symm
      simp (implicitDefEqProofs := false) (dsimp := false) only [e, ↓aw_seq, ↓aw_exit, ↓aw_ret, ↓aw_reg, ↓Qseq_n, ↓Qseq_x, ↓Qblk_x, ↓Qret_r, ↓ops_nil, ↓ops_cons, ↓eval_tmp, ↓put_some, ↓op_move, ↓op_assign, ↓td_d, ↓ret_1, List.getD_cons_zero, List.getD_cons_succ, List.set_cons_zero, List.set_cons_succ, Nat.reduceAdd, Nat.reduceSub, Nat.reduceMul, evK_go, reduceIte, decide_false, Nat.reduceEqDiff, Nat.reduceLT, Nat.lt_irrefl]
theorem rordI_spec (n : Int) (l : List (Int × Int)) (hpre : chk n l = 0 ∧ l.length < 2 ^ 62) : FnD Tryd.prog 21 [I .i64 n, .l (l.map lnD)] (.t [.l ((topoL n l).map nD), Bo (decide (topoE n l = 0))]) := by
  obtain ⟨hc, hl⟩ := hpre
  have ok := chk_ok hc
  have h8 := ok.hi
  have h1 := ok.lo
  have h := rord_spec n.toNat (natL l) ⟨⟨by omega, by omega⟩, by rw [natL_len]; exact hl, ok.good⟩
  have e1 : topoE n l = if (topoO n.toNat (natL l)).isSome then 0 else 5 := if_pos hc
  have e2 : topoL n l = (topoO n.toNat (natL l)).getD [] := if_pos hc
  rw [← lnD_nat ok.rng, ← ok.n0, ← e2] at h
  have e3 : decide (topoE n l = 0) = (topoO n.toNat (natL l)).isSome := by rw [e1]; cases topoO n.toNat (natL l) <;> rfl
  rw [e3]
  exact h
theorem rordI_call (n : Int) (l : List (Int × Int)) (pure : Bool) (σ : St) (dst : Option Tmp) (K : St → Prop) : CallH Tryd.prog 21 [I .i64 n, .l (l.map lnD)] pure σ dst (.mk : Hid K) = OrH ((chk n l = 0 ∧ l.length < 2 ^ 62) ∧ (pure || D.flat (.t [.l ((topoL n l).map nD), Bo (decide (topoE n l = 0))])) = true ∧ evK (σ.put dst (.d (.t [.l ((topoL n l).map nD), Bo (decide (topoE n l = 0))]))) (.mk : Hid K)) (.mk : Hid (CallH Tryd.prog 21 [I .i64 n, .l (l.map lnD)] pure σ dst (.mk : Hid K))) := CallH.eq (rordI_spec n l) pure σ dst K
theorem rordI_callQ (n : Int) (l : List (Int × Int)) (pure : Bool) (C : V → Prop) : CallQ Tryd.prog 21 [I .i64 n, .l (l.map lnD)] pure (.mk : Hid C) = OrH ((chk n l = 0 ∧ l.length < 2 ^ 62) ∧ (pure || D.flat (.t [.l ((topoL n l).map nD), Bo (decide (topoE n l = 0))])) = true ∧ evK (V.d (.t [.l ((topoL n l).map nD), Bo (decide (topoE n l = 0))])) (.mk : Hid C)) (.mk : Hid (CallQ Tryd.prog 21 [I .i64 n, .l (l.map lnD)] pure (.mk : Hid C))) := CallQ.eq (rordI_spec n l) pure C
theorem deepR_ok {n : Int} {l : List (Int × Int)} (h : topoE n l = 0) : (deepR n l).length = n.toNat ∧ (IsDeep (natL l) fun j => (deepR n l).getD j default) ∧ ∀ i, i < n.toNat → (deepR n l).getD i default < n.toNat := by
  obtain ⟨hc0, o, ho⟩ := topoE_zero h
  have ok := chk_ok hc0
  have hcr := ok.cr
  have e1 : deepR n l = deepS n.toNat (natL l) o := by
    unfold deepR topoL
    rw [if_pos h, if_pos hc0, ho]; rfl
  rw [e1]
  obtain ⟨hdl, hd⟩ := deep_spec hcr.1 hcr.2.2 (topo_some hcr.1 hcr.2.2 ho)
  exact ⟨hdl, hd, fun b hb => deep_lt (d := fun j => (deepS n.toNat (natL l) o).getD j default) hcr.2.2 (topo_some hcr.1 hcr.2.2 ho) hd hb⟩
theorem rdeepI_spec (n : Int) (l : List (Int × Int)) (i : Nat) (hpre : (topoE n l = 0 ∧ i < n.toNat) ∧ l.length < 2 ^ 62) : FnD Tryd.prog 22 [.l (l.map lnD), I .i64 (i : Int)] (I .i64 ((deepR n l).getD i default : Nat)) := by
  obtain ⟨⟨h, hi⟩, hl⟩ := hpre
  obtain ⟨h1, h2, h3⟩ := deepR_ok h
  obtain ⟨hc0, _⟩ := topoE_zero h
  have ok := chk_ok hc0
  have h8 := ok.hi
  have := rdeep_spec (natL l) n.toNat (deepR n l) (by rw [natL_len]; exact hl) ok.good h2 h3 (by omega) _ i hi rfl
  rw [← lnD_nat ok.rng] at this
  exact this
theorem rdeepI_call (n : Int) (l : List (Int × Int)) (i : Nat) (pure : Bool) (σ : St) (dst : Option Tmp) (K : St → Prop) : CallH Tryd.prog 22 [.l (l.map lnD), I .i64 (i : Int)] pure σ dst (.mk : Hid K) = OrH (((topoE n l = 0 ∧ i < n.toNat) ∧ l.length < 2 ^ 62) ∧ (pure || D.flat (I .i64 ((deepR n l).getD i default : Nat))) = true ∧ evK (σ.put dst (.d (I .i64 ((deepR n l).getD i default : Nat)))) (.mk : Hid K)) (.mk : Hid (CallH Tryd.prog 22 [.l (l.map lnD), I .i64 (i : Int)] pure σ dst (.mk : Hid K))) := CallH.eq (rdeepI_spec n l i) pure σ dst K
theorem rdeepI_callQ (n : Int) (l : List (Int × Int)) (i : Nat) (pure : Bool) (C : V → Prop) : CallQ Tryd.prog 22 [.l (l.map lnD), I .i64 (i : Int)] pure (.mk : Hid C) = OrH (((topoE n l = 0 ∧ i < n.toNat) ∧ l.length < 2 ^ 62) ∧ (pure || D.flat (I .i64 ((deepR n l).getD i default : Nat))) = true ∧ evK (V.d (I .i64 ((deepR n l).getD i default : Nat))) (.mk : Hid C)) (.mk : Hid (CallQ Tryd.prog 22 [.l (l.map lnD), I .i64 (i : Int)] pure (.mk : Hid C))) := CallQ.eq (rdeepI_spec n l i) pure C
end Go.Proofs

namespace Go.Proofs
open Go.Aw
set_option linter.unusedSimpArgs false
set_option maxRecDepth 10000
theorem ints00_spec  : FnD Tryd.prog 25 [.l [], .l []] (Bo true) := by
  exact ints_spec [] [] (by decide)
theorem ints00_call  (pure : Bool) (σ : St) (dst : Option Tmp) (K : St → Prop) : CallH Tryd.prog 25 [.l [], .l []] pure σ dst (.mk : Hid K) = OrH ((pure || D.flat (Bo true)) = true ∧ evK (σ.put dst (.d (Bo true))) (.mk : Hid K)) (.mk : Hid (CallH Tryd.prog 25 [.l [], .l []] pure σ dst (.mk : Hid K))) := CallH.eq0 (ints00_spec ) pure σ dst K
theorem ints00_callQ  (pure : Bool) (C : V → Prop) : CallQ Tryd.prog 25 [.l [], .l []] pure (.mk : Hid C) = OrH ((pure || D.flat (Bo true)) = true ∧ evK (V.d (Bo true)) (.mk : Hid C)) (.mk : Hid (CallQ Tryd.prog 25 [.l [], .l []] pure (.mk : Hid C))) := CallQ.eq0 (ints00_spec ) pure C
theorem lTopoSays_spec (n : Int) (l : List (Int × Int)) (hn : -9223372036854775808 ≤ n ∧ n ≤ 9223372036854775807) (hl : l.length < 2 ^ 43) : FnD Tryd.prog 3 [I .i64 n, .l (l.map lnD)] (Bo true) := by
  have hl62 : l.length < 2 ^ 62 := by omega
  refine FnD.go Tryd.func3 rfl rfl Tryd.results3 Tryd.ntmps3 ?_
  simp (implicitDefEqProofs := false) (dsimp := false) only [↓aw_seq, ↓aw_reg, ↓Qseq_n, ↓ops_nil, ↓ops_cons, ↓eval_tmp, ↓eval_bool, ↓eval_func, ↓put_some, ↓op_move, ↓op_assign, ↓op_call, isD_d, ↓fnK_f, ↓call_H, ↓callK_H, ↓allT_nil, ↓allT_cons, ↓td_d, List.getD_cons_zero, List.getD_cons_succ, List.set_cons_zero, List.set_cons_succ, List.cons_append, List.nil_append, List.append_nil, List.map_cons, List.map_nil, List.length_cons, List.length_nil, List.all_cons, List.all_nil, Bool.and_self, Nat.reduceAdd, Nat.reduceSub, Nat.reduceMul, Nat.zero_add, List.replicate, evK_go, reduceIte, Nat.reduceEqDiff, Nat.reduceLT, and_self, Int.zero_add]
  simp (implicitDefEqProofs := false) (dsimp := false) only [lines_call, hl62, ↓aw_cond, ↓aw_seq, ↓aw_reg, ↓Qseq_n, ↓ops_nil, ↓ops_cons, ↓eval_tmp, ↓eval_int, ↓eval_nil, ↓put_some, ↓bK_b, ↓binE_i, ↓bi_eql, ↓op_move, ↓op_assign, ↓op_bin, List.getD_cons_zero, List.getD_cons_succ, List.set_cons_zero, List.set_cons_succ, Bool.true_and, Bool.true_or, Nat.reduceAdd, Nat.reduceSub, Nat.reduceMul, evK_go, reduceIte, Nat.reduceEqDiff, Nat.reduceLT, true_and]
  (repeat refine OrH.l ?_)
  refine cdK_dec (fun hc => ?_) (fun hc => ?_)
  rotate_left
  · have e1 : topoE n l = chk n l := if_neg hc
    have e2 : topoL n l = [] := if_neg hc
    have e3 : deepR n l = [] := if_neg (by rw [e1]; exact hc)
    simp (implicitDefEqProofs := false) (dsimp := false) only [↓aw_seq, ↓aw_block, ↓aw_skip, ↓aw_loop, ↓aw_reg, ↓Qseq_n, ↓ops_nil, ↓ops_cons, ↓eval_int, ↓put_some, ↓op_assign, List.set_cons_zero, List.set_cons_succ, Nat.reduceAdd, Nat.reduceSub, Nat.reduceMul, evK_go, reduceIte, Nat.reduceEqDiff, Nat.reduceLT]
    refine loopW (fun _ : Unit => { tm := slots 74 [(0, .d (I .i64 n)), (1, .d (.l (l.map lnD))), (5, .d (I .i64 (chk n l))), (6, .nl), (7, .nl), (10, .d (I .i64 0))], bx := [], rw := [] })
      (fun _ => True) (fun _ => 0) () trivial ?_ ?_
    · refine Wkn.of [] [] ?_; simp (implicitDefEqProofs := false) (dsimp := false) only [List.set_cons_zero, List.set_cons_succ, Bool.and_self, Nat.reduceAdd, Nat.reduceSub, Nat.reduceMul, List.replicate, evK_go, reduceIte, Nat.reduceEqDiff, Nat.reduceLT, and_self, List.foldl_cons, List.foldl_nil, slots, wkL_nil, wkL_cons, wkB_nil, wkR_nil, wkV_j, wkV_d, wkV_nl, nlK_nl, frz_d, reduceCtorEq]
    · rintro ⟨⟩ _
      simp (implicitDefEqProofs := false) (dsimp := false) only [slots, ↓gdK_t, ↓gval_mk, ↓gvL_zero, ↓gvL_succ, ↓aw_seq, ↓aw_reg, ↓ops_cons, ↓ops_guard, ↓eval_tmp, ↓put_some, ↓binE_i, ↓bi_lss, ↓op_move, ↓op_bin, ↓st_tm, List.getD_cons_zero, List.getD_cons_succ, List.set_cons_zero, List.set_cons_succ, Nat.reduceAdd, Nat.reduceSub, Nat.reduceMul, List.replicate, evK_go, reduceIte, Nat.reduceEqDiff, Nat.reduceLT, List.foldl_cons, List.foldl_nil]
      refine cdK_dec (fun h => ?_) (fun h => ?_)
      · simp (implicitDefEqProofs := false) (dsimp := false) only [decide_eq_true h, decide_eq_false hc, order_call, deepw_call, hl62, e1, e2, e3, eerr_call, ints00_call, ↓cdK_true, ↓cdK_false, ↓gdK_t, ↓gval_mk, ↓gvL_zero, ↓gvL_succ, ↓nthK_H, ↓nthH_zero, ↓nthH_succ, ↓aw_cond, ↓aw_seq, ↓aw_exit, ↓aw_ret, ↓aw_reg, ↓Qseq_n, ↓Qseq_x, ↓Qblk_x, ↓Qret_r, ↓ops_nil, ↓ops_cons, ↓ops_guard, ↓eval_tmp, ↓eval_int, ↓eval_func, ↓put_some, ↓bK_b, ↓tK_t, ↓binE_i, ↓bi_eql, ↓op_move, ↓op_assign, ↓op_pick, ↓op_bin, ↓op_extract, ↓op_call, ↓orH_T, isD_d, isD_nl, ↓fnK_f, ↓call_H, ↓callK_H, ↓allT_nil, ↓allT_cons, ↓td_d, ↓td_nl, ↓ret_1, ↓st_tm, List.getD_cons_zero, List.getD_cons_succ, List.set_cons_zero, List.set_cons_succ, List.append_nil, List.map_nil, List.all_cons, List.all_nil, Bool.and_self, Bool.true_or, Nat.reduceAdd, Nat.reduceSub, Nat.reduceMul, evK_go, reduceIte, decide_true, Nat.reduceEqDiff, Nat.reduceLT, and_self]
        (repeat (first | refine OrH.l ?_ | refine ⟨⟨rfl, by decide⟩, ?_⟩ | refine ⟨by decide, ?_⟩ | refine ⟨by omega, ?_⟩ | exact ⟨rfl, by decide⟩ | decide))
      · simp (implicitDefEqProofs := false) (dsimp := false) only [decide_eq_false h, order_call, deepw_call, hl62, e1, e2, e3, eerr_call, ints00_call, ↓cdK_true, ↓cdK_false, ↓gdK_t, ↓gval_mk, ↓gvL_zero, ↓gvL_succ, ↓nthK_H, ↓nthH_zero, ↓nthH_succ, ↓aw_cond, ↓aw_seq, ↓aw_exit, ↓aw_ret, ↓aw_reg, ↓Qseq_n, ↓Qseq_x, ↓Qblk_x, ↓Qret_r, ↓ops_nil, ↓ops_cons, ↓ops_guard, ↓eval_tmp, ↓eval_bool, ↓eval_func, ↓put_some, ↓bK_b, ↓tK_t, ↓op_move, ↓op_assign, ↓op_pick, ↓op_extract, ↓op_call, ↓orH_T, isD_d, isD_nl, ↓fnK_f, ↓call_H, ↓callK_H, ↓allT_nil, ↓allT_cons, ↓td_d, ↓td_nl, ↓ret_1, ↓st_tm, List.getD_cons_zero, List.getD_cons_succ, List.set_cons_zero, List.set_cons_succ, List.append_nil, List.map_nil, List.all_cons, List.all_nil, Bool.and_self, Bool.true_or, Nat.reduceAdd, Nat.reduceSub, Nat.reduceMul, evK_go, reduceIte, decide_true, Nat.reduceEqDiff, Nat.reduceLT, and_self]
        (repeat (first | refine OrH.l ?_ | refine ⟨⟨rfl, by decide⟩, ?_⟩ | refine ⟨by decide, ?_⟩ | refine ⟨by omega, ?_⟩ | exact ⟨rfl, by decide⟩ | decide))
  have h5 : topoE n l = 0 ∨ topoE n l = 5 := by unfold topoE; rw [if_pos hc]; split <;> simp
  have h50 : decide ((5 : Int) = 0) = false := by decide
  have hpr : chk n l = 0 ∧ l.length < 2 ^ 62 := ⟨hc, hl62⟩
  rcases h5 with e1 | e1
  rotate_left
  · have e2 : topoL n l = [] := by
      unfold topoE at e1
      unfold topoL
      rw [if_pos hc] at e1 ⊢
      cases ho : topoO n.toNat (natL l) with
      | none => rfl
      | some o => rw [ho] at e1; cases e1
    have e3 : deepR n l = [] := if_neg (by rw [e1]; decide)
    have e4 : decide (topoE n l = 0) = false := by rw [e1]; decide
    rw [hc]
    simp (implicitDefEqProofs := false) (dsimp := false) only [rordI_call, hpr, e2, e4, ↓cdK_true, ↓nthK_H, ↓nthH_zero, ↓nthH_succ, ↓aw_cond, ↓aw_seq, ↓aw_block, ↓aw_loop, ↓aw_reg, ↓Qseq_n, ↓ops_nil, ↓ops_cons, ↓eval_tmp, ↓eval_int, ↓eval_func, ↓put_some, ↓bK_b, ↓tK_t, ↓op_move, ↓op_assign, ↓op_not, ↓op_extract, ↓op_call, isD_d, ↓fnK_f, ↓call_H, ↓callK_H, ↓allT_nil, ↓allT_cons, ↓td_d, List.getD_cons_zero, List.getD_cons_succ, List.set_cons_zero, List.set_cons_succ, List.append_nil, List.map_nil, List.all_cons, List.all_nil, Bool.true_and, Bool.and_self, Bool.true_or, Nat.reduceAdd, Nat.reduceSub, Nat.reduceMul, evK_go, reduceIte, decide_true, Bool.not_false, Nat.reduceEqDiff, Nat.reduceLT, and_self, true_and]
    (repeat refine OrH.l ?_)
    refine loopW (fun _ : Unit => { tm := slots 74 [(0, .d (I .i64 n)), (1, .d (.l (l.map lnD))), (5, .d (I .i64 5)), (6, .d (.l [])), (7, .nl), (10, .d (I .i64 0))], bx := [], rw := [] })
      (fun _ => True) (fun _ => 0) () trivial ?_ ?_
    · refine Wkn.of [] [] ?_; simp (implicitDefEqProofs := false) (dsimp := false) only [List.set_cons_zero, List.set_cons_succ, Bool.and_self, Nat.reduceAdd, Nat.reduceSub, Nat.reduceMul, List.replicate, evK_go, reduceIte, Nat.reduceEqDiff, Nat.reduceLT, and_self, List.foldl_cons, List.foldl_nil, slots, wkL_nil, wkL_cons, wkB_nil, wkR_nil, wkV_j, wkV_d, wkV_nl, nlK_nl, frz_d, reduceCtorEq]
    · rintro ⟨⟩ _
      simp (implicitDefEqProofs := false) (dsimp := false) only [slots, ↓gdK_t, ↓gval_mk, ↓gvL_zero, ↓gvL_succ, ↓aw_seq, ↓aw_reg, ↓ops_cons, ↓ops_guard, ↓eval_tmp, ↓put_some, ↓binE_i, ↓bi_lss, ↓op_move, ↓op_bin, ↓st_tm, List.getD_cons_zero, List.getD_cons_succ, List.set_cons_zero, List.set_cons_succ, Nat.reduceAdd, Nat.reduceSub, Nat.reduceMul, List.replicate, evK_go, reduceIte, Nat.reduceEqDiff, Nat.reduceLT, List.foldl_cons, List.foldl_nil]
      refine cdK_dec (fun h => ?_) (fun h => ?_)
      · simp (implicitDefEqProofs := false) (dsimp := false) only [decide_eq_true h, h50, order_call, deepw_call, hl62, e1, e2, e3, eerr_call, ints00_call, ↓cdK_true, ↓cdK_false, ↓gdK_t, ↓gval_mk, ↓gvL_zero, ↓gvL_succ, ↓nthK_H, ↓nthH_zero, ↓nthH_succ, ↓aw_cond, ↓aw_seq, ↓aw_exit, ↓aw_ret, ↓aw_reg, ↓Qseq_n, ↓Qseq_x, ↓Qblk_x, ↓Qret_r, ↓ops_nil, ↓ops_cons, ↓ops_guard, ↓eval_tmp, ↓eval_int, ↓eval_func, ↓put_some, ↓bK_b, ↓tK_t, ↓binE_i, ↓bi_eql, ↓op_move, ↓op_assign, ↓op_pick, ↓op_bin, ↓op_extract, ↓op_call, ↓orH_T, isD_d, isD_nl, ↓fnK_f, ↓call_H, ↓callK_H, ↓allT_nil, ↓allT_cons, ↓td_d, ↓td_nl, ↓ret_1, ↓st_tm, List.getD_cons_zero, List.getD_cons_succ, List.set_cons_zero, List.set_cons_succ, List.append_nil, List.map_nil, List.all_cons, List.all_nil, Bool.and_self, Bool.true_or, Nat.reduceAdd, Nat.reduceSub, Nat.reduceMul, evK_go, reduceIte, decide_true, Nat.reduceEqDiff, Nat.reduceLT, and_self]
        (repeat (first | refine OrH.l ?_ | refine ⟨⟨rfl, by decide⟩, ?_⟩ | refine ⟨by decide, ?_⟩ | refine ⟨by omega, ?_⟩ | exact ⟨rfl, by decide⟩ | decide))
      · simp (implicitDefEqProofs := false) (dsimp := false) only [decide_eq_false h, order_call, deepw_call, hl62, e1, e2, e3, eerr_call, ints00_call, ↓cdK_true, ↓cdK_false, ↓gdK_t, ↓gval_mk, ↓gvL_zero, ↓gvL_succ, ↓nthK_H, ↓nthH_zero, ↓nthH_succ, ↓aw_cond, ↓aw_seq, ↓aw_exit, ↓aw_ret, ↓aw_reg, ↓Qseq_n, ↓Qseq_x, ↓Qblk_x, ↓Qret_r, ↓ops_nil, ↓ops_cons, ↓ops_guard, ↓eval_tmp, ↓eval_bool, ↓eval_func, ↓put_some, ↓bK_b, ↓tK_t, ↓op_move, ↓op_assign, ↓op_pick, ↓op_extract, ↓op_call, ↓orH_T, isD_d, isD_nl, ↓fnK_f, ↓call_H, ↓callK_H, ↓allT_nil, ↓allT_cons, ↓td_d, ↓td_nl, ↓ret_1, ↓st_tm, List.getD_cons_zero, List.getD_cons_succ, List.set_cons_zero, List.set_cons_succ, List.append_nil, List.map_nil, List.all_cons, List.all_nil, Bool.and_self, Bool.true_or, Nat.reduceAdd, Nat.reduceSub, Nat.reduceMul, evK_go, reduceIte, decide_true, Nat.reduceEqDiff, Nat.reduceLT, and_self]
        (repeat (first | refine OrH.l ?_ | refine ⟨⟨rfl, by decide⟩, ?_⟩ | refine ⟨by decide, ?_⟩ | refine ⟨by omega, ?_⟩ | exact ⟨rfl, by decide⟩ | decide))
  have e4 : decide (topoE n l = 0) = true := by rw [e1]; decide
  obtain ⟨d1, d2, d3⟩ := deepR_ok e1
  have ok := chk_ok hc
  have e0 := ok.n0
  have h8 := ok.hi
  rw [hc]
  simp (implicitDefEqProofs := false) (dsimp := false) only [rordI_call, hpr, e4, ↓cdK_false, ↓nthK_H, ↓nthH_zero, ↓nthH_succ, ↓aw_cond, ↓aw_seq, ↓aw_block, ↓aw_skip, ↓aw_loop, ↓aw_reg, ↓Qseq_n, ↓ops_nil, ↓ops_cons, ↓eval_tmp, ↓eval_int, ↓eval_func, ↓put_some, ↓bK_b, ↓tK_t, ↓op_move, ↓op_assign, ↓op_not, ↓op_extract, ↓op_call, isD_d, ↓fnK_f, ↓call_H, ↓callK_H, ↓allT_nil, ↓allT_cons, ↓td_d, List.getD_cons_zero, List.getD_cons_succ, List.set_cons_zero, List.set_cons_succ, List.append_nil, List.all_cons, List.all_nil, Bool.true_and, Bool.and_self, Bool.true_or, Nat.reduceAdd, Nat.reduceSub, Nat.reduceMul, evK_go, reduceIte, decide_true, Bool.not_true, Nat.reduceEqDiff, Nat.reduceLT, and_self, true_and]
  (repeat refine OrH.l ?_)
  have ho62 : (topoL n l).length < 2 ^ 62 := by
    obtain ⟨_, o, ho⟩ := topoE_zero e1
    have := (topo_some ok.cr.1 ok.cr.2.2 ho).len
    unfold topoL
    rw [if_pos hc, ho, Option.getD_some]
    omega
  have h00 : decide ((0 : Int) = 0) = true := by decide
  refine loopW (fun i : Nat => { tm := slots 74 [(0, .d (I .i64 n)), (1, .d (.l (l.map lnD))), (5, .d (I .i64 0)), (6, .d (.l ((topoL n l).map nD))), (7, .o 0 0 i), (10, .d (I .i64 i))], bx := [], rw := [some ⟨1, ((deepR n l).take i).map nD⟩] })
    (fun i => i ≤ n.toNat) (fun i => n.toNat - i) 0 (by simp) ?_ ?_
  · refine Wkn.of [] [none] ?_
    simp (implicitDefEqProofs := false) (dsimp := false) only [↓row_xs, List.set_cons_zero, List.set_cons_succ, List.map_nil, Bool.and_self, Nat.reduceAdd, Nat.reduceSub, Nat.reduceMul, List.replicate, evK_go, reduceIte, Nat.reduceEqDiff, Nat.reduceLT, and_self, List.take_zero, List.foldl_cons, List.foldl_nil, Int.cast_ofNat_Int, slots, wkL_nil, wkL_cons, wkB_nil, wkR_nil, wkR_new, wkV_j, wkV_d, nlK_nl, wkV_o, frz_d, oK_zn, reduceCtorEq]
  · intro i hi
    have htl : ((deepR n l).take i).length = i := by simp; omega
    simp (implicitDefEqProofs := false) (dsimp := false) only [slots, ↓gdK_t, ↓gval_mk, ↓gvL_zero, ↓gvL_succ, ↓aw_seq, ↓aw_reg, ↓ops_cons, ↓ops_guard, ↓eval_tmp, ↓put_some, ↓binE_i, ↓bi_lss, ↓op_move, ↓op_bin, ↓st_tm, List.getD_cons_zero, List.getD_cons_succ, List.set_cons_zero, List.set_cons_succ, Nat.reduceAdd, Nat.reduceSub, Nat.reduceMul, List.replicate, evK_go, reduceIte, Nat.reduceEqDiff, Nat.reduceLT, List.foldl_cons, List.foldl_nil]
    refine cdK_dec (fun h => ?_) (fun h => ?_)
    · have hin : (topoE n l = 0 ∧ i < n.toNat) ∧ l.length < 2 ^ 62 := ⟨⟨e1, by omega⟩, hl62⟩
      have hid : i < (deepR n l).length := by omega
      simp (implicitDefEqProofs := false) (dsimp := false) only [decide_eq_true h, rdeepI_call n l i, hin, htl, ↓cdK_true, ↓gdK_t, ↓gval_mk, ↓gvL_zero, ↓gvL_succ, ↓optK_some, ↓rwK_mk_, ↓aw_cond, ↓aw_seq, ↓aw_block, ↓aw_skip, ↓aw_reg, ↓Qseq_n, ↓Qblk_n, ↓ops_nil, ↓ops_cons, ↓ops_guard, ↓eval_tmp, ↓eval_int, ↓eval_func, ↓put_some, ↓bK_b, ↓dK_d, ↓binE_i, ↓bi_add, ↓bi_eql, ↓in_i64, ↓op_move, ↓op_assign, ↓op_pick, ↓op_bin, ↓op_append, ↓op_call, isD_d, ↓fnK_f, ↓call_H, ↓callK_H, ↓allT_nil, ↓allT_cons, ↓allD_nil, ↓allD_cons, ↓td_d, ↓app_mk, ↓st_tm, ↓row_sz, ↓row_xs, kill_d, kill_j, kill_o, ↓cells_c, ↓one_i, ↓ap_, ↓ap_o, ↓src_l, ↓bs_, ↓op_bs, ↓bsL_f, ↓stored_mk, ↓sl_nil, ↓sl_cons, ↓sT_move, ↓sT_assign, ↓sT_bs, ↓sT_call, ↓vsz_int, ↓inO_1, ↓fm_nil, ↓fm_cons, ↓ty3, ↓zb3, ↓sl24, List.getD_cons_zero, List.getD_cons_succ, List.set_cons_zero, List.set_cons_succ, List.append_nil, List.map_cons, List.map_nil, List.length_cons, List.length_nil, List.length_map, List.all_cons, List.all_nil, Bool.true_and, Bool.and_self, Bool.true_or, Bool.or_false, Nat.reduceAdd, Nat.reduceSub, Nat.reduceMul, Nat.zero_add, evK_go, reduceIte, decide_true, Nat.reduceEqDiff, Nat.reduceLT, and_self, true_and, Int.zero_add, List.drop_zero]
      (repeat refine OrH.l ?_)
      refine ⟨by decide, ⟨fun _ => trivial, by omega, by omega⟩, by omega, i + 1, by omega, by omega, ?_⟩
      refine Wkn.of [] [some 0] ?_
      simp (implicitDefEqProofs := false) (dsimp := false) only [take_succ_getD hid, List.map_append, nD, List.getD_cons_zero, List.set_cons_zero, List.set_cons_succ, List.map_cons, List.map_nil, Bool.and_self, Nat.reduceAdd, Nat.reduceSub, Nat.reduceMul, List.replicate, evK_go, reduceIte, Nat.reduceEqDiff, Nat.reduceLT, and_self, List.foldl_cons, List.foldl_nil, Int.cast_ofNat_Int, Int.natCast_add, slots, wkL_nil, wkL_cons, wkB_nil, wkR_nil, wkR_some, wkV_j, wkV_d, wkV_o, frz_d, oK_zs, reduceCtorEq]
    · obtain rfl : i = n.toNat := by omega
      have htk : (deepR n l).take n.toNat = deepR n l := List.take_of_length_le (by omega)
      have htk2 : List.take n.toNat (List.map nD (deepR n l)) = List.map nD (deepR n l) := List.take_of_length_le (by simp; omega)
      have hd62 : (deepR n l).length < 2 ^ 62 := by omega
      simp (implicitDefEqProofs := false) (dsimp := false) only [decide_eq_false h, htk, htk2, order_call, deepw_call, hl62, e1, eerr_call, intsN_call, ho62, hd62, ↓cdK_true, ↓cdK_false, ↓gdK_t, ↓gval_mk, ↓gvL_zero, ↓gvL_succ, ↓optK_some, ↓rwK_mk_, ↓nthK_H, ↓nthH_zero, ↓nthH_succ, ↓aw_cond, ↓aw_seq, ↓aw_exit, ↓aw_ret, ↓aw_reg, ↓Qseq_n, ↓Qseq_x, ↓Qblk_x, ↓Qret_r, ↓ops_nil, ↓ops_cons, ↓ops_guard, ↓eval_tmp, ↓eval_bool, ↓eval_func, ↓put_some, ↓bK_b, ↓tK_t, ↓op_move, ↓op_assign, ↓op_pick, ↓op_extract, ↓op_call, isD_d, isD_o, ↓fnK_f, ↓call_H, ↓callK_H, ↓allT_nil, ↓allT_cons, ↓td_d, ↓td_o, ↓ret_1, ↓st_tm, ↓row_xs, List.getD_cons_zero, List.getD_cons_succ, List.set_cons_zero, List.set_cons_succ, List.append_nil, List.all_cons, List.all_nil, Bool.and_true, Bool.true_and, Bool.and_self, Bool.and_false, Bool.true_or, Bool.false_or, Nat.reduceAdd, Nat.reduceSub, Nat.reduceMul, evK_go, reduceIte, decide_true, Nat.reduceEqDiff, Nat.reduceLT, and_self, true_and, and_true, List.drop_zero]
      (repeat refine OrH.l ?_)
      rfl
end Go.Proofs

namespace Go.Proofs
set_option maxRecDepth 100000
theorem cutNo : ("cut".toList == "gc".toList || "cut".toList == "spec".toList) = false := by kernel_rfl
theorem cutNo2 : ("cut".toList == "carried".toList) = false := by kernel_rfl
theorem cutStrip (T : List (List Char)) : stripLifts liftWords ("cut".toList :: T) = ([], "cut".toList :: T) := by kernel_rfl
theorem make_of {P : Program} {T : List (List Char)} (h : behindMainWord (wordsSigns P.initOrder.toList) = "cut".toList :: T) : P.make = some .cut := by
  unfold Program.make
  rw [h]
  simp (implicitDefEqProofs := false) (dsimp := false) only [cutNo, beq_self_eq_true, Bool.true_or, Bool.false_eq_true, if_false, if_true]
theorem enter_of {P : Program} {T : List (List Char)} (h : behindMainWord (wordsSigns P.initOrder.toList) = "cut".toList :: T) (h1 : P.laysLater = false) (h2 : P.bearsReflect = false) (h3 : P.doorFits [] = true) : P.mayEnter = true := by
  unfold Program.mayEnter
  rw [h]
  simp (implicitDefEqProofs := false) (dsimp := false) only [cutStrip, cutNo, cutNo2, h1, h2, h3, List.head?_cons, beq_self_eq_true, Bool.not_false, Bool.or_true, Bool.and_true, Bool.true_and]
  rfl
theorem final_of {P : Program} {T : List (List Char)} (h : behindMainWord (wordsSigns P.initOrder.toList) = "cut".toList :: T) : P.liftsFinal = false := by
  unfold Program.liftsFinal Program.headLifts
  rw [h]
  simp (implicitDefEqProofs := false) (dsimp := false) only [cutStrip]
  kernel_rfl
theorem cutWord : behindMainWord (wordsSigns Tryd.prog.initOrder.toList) = "cut".toList :: (behindMainWord (wordsSigns Tryd.prog.initOrder.toList)).tail := by
  have h : Tryd.prog.initOrder.toList = _ := String.toList_ofList
  rw [h]
  show (_ : List (List Char)) = _
  kernel_rfl
theorem pLater : Tryd.prog.laysLater = false := by
  unfold Program.laysLater
  rw [← Array.any_toList]
  kernel_rfl
theorem pReflect : Tryd.prog.bearsReflect = false := by kernel_rfl
theorem pDoor : Tryd.prog.doorFits [] = true := by kernel_rfl
theorem pMake : Tryd.prog.make = some .cut := make_of cutWord
theorem pEnter : Tryd.prog.mayEnter = true := enter_of cutWord pLater pReflect pDoor
theorem pFinal : Tryd.prog.liftsFinal = false := final_of cutWord
theorem pLaid : laidOutB Tryd.prog = true := by kernel_rfl
theorem pRowed : mapsRowed Tryd.prog = true := by kernel_rfl
theorem pStops : (Tryd.prog.stops == []) = true := by kernel_rfl
theorem pKnobs : (Tryd.prog.stopKnobs == []) = true := by kernel_rfl
theorem pHeard : Tryd.prog.stopsHeard = true := by kernel_rfl
theorem pMain : Tryd.prog.mainIs = some (true, "ef528b23815b70c2662300e7e3ba81efdd8130d758234ace3c638d7836b90011".toList) := by
  have h : Tryd.prog.initOrder.toList = _ := String.toList_ofList
  unfold Program.mainIs
  rw [h]
  show (_ : Option (Bool × List Char)) = _
  kernel_rfl
theorem pLooks : true = Tryd.prog.looks [] := by kernel_rfl
theorem pOwn : ownKnob Tryd.prog.godebug = none := by kernel_rfl
theorem andB {a b : Bool} (ha : a = true) (hb : b = true) : (a && b) = true := by rw [ha, hb]; rfl
end Go.Proofs
