/- Part W 2 of what the proof of MatchHall stands on: what the functions of the program compute. -/
import Derived.Test.YtblhpmhfhpmifaaW1
import Derived.Test.YtblhpmhfhpmifaaRows
import Derived.ProofKit
import Derived.JoinedCond
import Derived.SizedLaws
import Derived.ReadAgain
import Derived.Deep.SlicePairs
import Derived.Deep.Matrix
import Derived.Lib.SmallJoins
set_option linter.unusedVariables false
set_option linter.unusedSimpArgs false
namespace Go.Proofs
open Go.Aw
set_option linter.unusedSimpArgs false
set_option maxRecDepth 10000
def strongR (n : Int) (l : List (Int × Int)) : List Nat := if chk n l = 0 then strongP n.toNat (natL l) else []
theorem sparts_spec (n : Int) (l : List (Int × Int)) (hpre : l.length < 2 ^ 62) : FnD Try.prog 43 [I .i64 n, .l (l.map lnD)] (.t [.l ((strongR n l).map nD), erD (chk n l)]) := by
  refine FnD.go Try.func43 rfl rfl Try.results43 Try.ntmps43 ?_
  simp (implicitDefEqProofs := false) (dsimp := false) only [↓aw_seq, ↓aw_reg, ↓Qseq_n, ↓ops_nil, ↓ops_cons, ↓eval_tmp, ↓eval_nil, ↓eval_func, ↓put_some, ↓op_move, ↓op_assign, ↓op_call, isD_d, ↓fnK_f, ↓call_H, ↓callK_H, ↓allT_nil, ↓allT_cons, ↓td_d, List.getD_cons_zero, List.getD_cons_succ, List.set_cons_zero, List.set_cons_succ, List.cons_append, List.nil_append, List.append_nil, List.map_cons, List.map_nil, List.length_cons, List.length_nil, List.all_cons, List.all_nil, Bool.and_self, Nat.reduceAdd, Nat.reduceSub, Nat.reduceMul, Nat.zero_add, List.replicate, evK_go, reduceIte, Nat.reduceEqDiff, Nat.reduceLT, and_self, Int.zero_add]
  simp (implicitDefEqProofs := false) (dsimp := false) only [gcheck_call, eval_nilI, ↓er_neq, er_flat, ↓cdK_not, ↓aw_cond, ↓aw_seq, ↓aw_reg, ↓Qseq_n, ↓ops_nil, ↓ops_cons, ↓eval_tmp, ↓put_some, ↓bK_b, ↓op_move, ↓op_assign, ↓op_bin, List.getD_cons_zero, List.getD_cons_succ, List.set_cons_zero, List.set_cons_succ, Bool.true_and, Bool.or_true, Nat.reduceAdd, Nat.reduceSub, Nat.reduceMul, evK_go, reduceIte, Nat.reduceEqDiff, Nat.reduceLT, true_and]
  refine OrH.l (OrH.l ⟨hpre, ?_⟩)
  refine cdK_dec (fun hc => ?_) (fun hc => ?_)
  rotate_left
  · simp (implicitDefEqProofs := false) (dsimp := false) only [strongR, hc, ↓aw_seq, ↓aw_ret, ↓aw_reg, ↓Qseq_n, ↓Qseq_r, ↓Qret_r, ↓ops_nil, ↓ops_cons, ↓eval_tmp, ↓eval_nil, ↓put_some, ↓op_move, ↓op_assign, ↓td_d, ↓td_nl, ↓ret_2, List.getD_cons_zero, List.getD_cons_succ, List.set_cons_zero, List.set_cons_succ, List.map_nil, Nat.reduceAdd, Nat.reduceSub, Nat.reduceMul, evK_go, reduceIte, decide_false, Bool.not_false, Nat.reduceEqDiff, Nat.reduceLT]
  have ok := chk_ok hc
  rw [show strongR n l = strongP n.toNat (natL l) from if_pos hc, lnD_nat ok.rng, hc]
  have hout := ok.out
  have hg := ok.good
  have h8 := ok.hi
  have h24 : (natL l).length ≤ 24 := by rw [natL_len]; exact ok.len
  have e0 := ok.n0
  clear ok hc hpre
  generalize n.toNat = m at *
  subst e0
  generalize natL l = L at *
  simp (implicitDefEqProofs := false) (dsimp := false) only [out_callD, hout, ↓aw_seq, ↓aw_block, ↓aw_skip, ↓aw_loop, ↓aw_reg, ↓Qseq_n, ↓ops_nil, ↓ops_cons, ↓eval_tmp, ↓eval_int, ↓eval_nil, ↓eval_func, ↓put_some, ↓lenK_l, ↓op_move, ↓op_assign, ↓op_len, ↓op_call, isD_d, ↓fnK_f, ↓call_H, ↓callK_H, ↓allT_nil, ↓allT_cons, ↓td_d, ↓sl22, List.getD_cons_zero, List.getD_cons_succ, List.set_cons_zero, List.set_cons_succ, List.append_nil, List.length_map, List.all_cons, List.all_nil, Bool.true_and, Bool.and_self, Bool.true_or, Nat.reduceAdd, Nat.reduceSub, Nat.reduceMul, evK_go, reduceIte, decide_true, Bool.not_true, Nat.reduceEqDiff, Nat.reduceLT, and_self, true_and]
  refine OrH.l (OrH.l ⟨hout.2.2, ?_⟩)
  refine loopW (fun k : Nat => { tm := slots 66 [(0, .d (I .i64 (m : Int))), (7, .d (.l ((outS m L).map U))), (8, .o 0 0 k), (24, .d (.l (L.map lnN))), (25, .d (I .i64 L.length)), (26, .d (I .i64 k))], bx := [], rw := [some ⟨2, ((L.take k).map flip).map lnN⟩] })
    (fun k => k ≤ L.length) (fun k => L.length - k) 0 (by simp) ?_ ?_
  · refine Wkn.of [] [none] ?_
    simp (implicitDefEqProofs := false) (dsimp := false) only [↓row_xs, List.set_cons_zero, List.set_cons_succ, List.map_nil, Bool.and_self, Nat.reduceAdd, Nat.reduceSub, Nat.reduceMul, List.replicate, evK_go, reduceIte, Nat.reduceEqDiff, Nat.reduceLT, and_self, List.take_zero, List.foldl_cons, List.foldl_nil, Int.cast_ofNat_Int, slots, wkL_nil, wkL_cons, wkB_nil, wkR_nil, wkR_new, wkV_j, wkV_d, nlK_nl, wkV_o, frz_d, oK_zn, reduceCtorEq]
  · intro k hk
    simp (implicitDefEqProofs := false) (dsimp := false) only [slots, ↓aw_cond, ↓aw_seq, ↓aw_reg, ↓Qseq_n, ↓ops_nil, ↓ops_cons, ↓eval_tmp, ↓put_some, ↓bK_b, ↓binE_i, ↓bi_lss, ↓op_bin, List.getD_cons_zero, List.getD_cons_succ, List.set_cons_zero, List.set_cons_succ, Nat.reduceAdd, Nat.reduceSub, Nat.reduceMul, List.replicate, evK_go, reduceIte, Nat.reduceEqDiff, Nat.reduceLT, List.foldl_cons, List.foldl_nil, Int.ofNat_lt]
    refine cdK_dec (fun h => ?_) (fun h => ?_)
    · simp (implicitDefEqProofs := false) (dsimp := false) only [h, lnN, ↓optK_some, ↓rwK_mk_, ↓atK_H, ↓atH_map, ↓nthK_H, ↓nthH_zero, ↓nthH_succ, ↓aw_seq, ↓aw_block, ↓aw_skip, ↓aw_reg, ↓Qseq_n, ↓Qblk_n, ↓ops_nil, ↓ops_cons, ↓eval_tmp, ↓eval_int, ↓put_some, ↓put_none, ↓iK_i, ↓dK_d, ↓binE_i, ↓bi_add, ↓in_i64, ↓ldK_q, ↓ldK_p, ↓faK_p, ↓iaK_l, ↓op_move, ↓op_assign, ↓op_load, ↓op_bin, ↓op_fa, ↓op_ia, ↓op_build, ↓op_append, ↓op_alloc, ↓op_store, ↓allD_nil, ↓allD_cons, ↓addBox_mk, ↓setBox_mk, ↓app_mk, ↓st_bx, ↓row_sz, ↓row_xs, kill_d, kill_j, kill_p, kill_o, ↓cells_c, ↓cells_s, ↓vcells_s, ↓one_i, ↓vone_d, constV_a, ↓st_p, ↓ap_, ↓ap_o, ↓src_l, ↓bs_, ↓op_bs, ↓bsL_f, ↓stored_mk, ↓sl_nil, ↓sl_cons, ↓sT_move, ↓sT_assign, ↓sT_load, ↓sT_fa, ↓sT_build, ↓sT_bs, ↓sT_call, ↓vsz_agg, ↓inO_1, ↓fm_nil, ↓fm_cons, ↓ty3, ↓sl22, ↓ty35, ↓zb35, ↓fd35_0, ↓fd35_1, ↓bd35, List.getD_cons_zero, List.getD_cons_succ, List.set_cons_zero, List.set_cons_succ, List.cons_append, List.nil_append, List.map_cons, List.map_nil, List.length_cons, List.length_nil, List.length_map, List.all_cons, List.all_nil, Bool.true_and, Bool.and_self, Bool.or_false, Nat.reduceAdd, Nat.reduceSub, Nat.reduceMul, Nat.zero_add, Nat.add_zero, Int.toNat_natCast, evK_go, reduceIte, decide_true, Nat.reduceEqDiff, Nat.reduceLT, and_self, true_and, Int.zero_add, List.drop_zero, List.take_succ_cons, List.take_nil, Int.natCast_nonneg]
      refine ⟨by decide, ⟨rfl, by decide⟩, rfl, ⟨fun _ => trivial, by simp; omega, by omega, by omega⟩, by omega, k + 1, by omega, by omega, ?_⟩
      refine Wkn.of [] [some 0] ?_
      simp (implicitDefEqProofs := false) (dsimp := false) only [take_succ_getD h, List.map_append, lnN, flip, List.getD_cons_zero, List.set_cons_zero, List.set_cons_succ, List.map_cons, List.map_nil, Bool.and_self, Nat.reduceAdd, Nat.reduceSub, Nat.reduceMul, List.replicate, evK_go, reduceIte, Nat.reduceEqDiff, Nat.reduceLT, and_self, List.foldl_cons, List.foldl_nil, Int.cast_ofNat_Int, Int.natCast_add, slots, wkL_nil, wkL_cons, wkB_nil, wkR_nil, wkR_some, wkV_j, wkV_d, wkV_o, frz_d, oK_zs, reduceCtorEq]
    · obtain rfl : k = L.length := by omega
      have e : List.take L.length (List.map lnN (List.map flip L)) = (L.map flip).map lnN := List.take_of_length_le (by simp)
      have hout2 : m ≤ 64 ∧ (L.map flip).length < 2 ^ 62 ∧ ∀ p ∈ L.map flip, p.1 < m ∧ p.2 < 64 := ⟨by omega, by simp; omega, fun p hp => by have := hg.flip p hp; omega⟩
      simp (implicitDefEqProofs := false) (dsimp := false) only [List.take_length, e, out_call, hout2, rflat_U, ↓optK_some, ↓rwK_mk_, ↓aw_seq, ↓aw_block, ↓aw_exit, ↓aw_loop, ↓aw_reg, ↓Qseq_n, ↓Qseq_x, ↓Qblk_x, ↓ops_nil, ↓ops_cons, ↓eval_tmp, ↓eval_int, ↓eval_nil, ↓eval_func, ↓put_some, ↓op_move, ↓op_assign, ↓op_call, isD_d, isD_o, ↓fnK_f, ↓call_H, ↓callK_H, ↓allT_nil, ↓allT_cons, ↓td_d, ↓td_o, ↓addRow_mk, ↓st_rw, ↓row_xs, List.getD_cons_zero, List.getD_cons_succ, List.set_cons_zero, List.set_cons_succ, List.cons_append, List.nil_append, List.append_nil, List.length_cons, List.length_nil, List.length_map, List.all_cons, List.all_nil, Bool.and_true, Bool.true_and, Bool.and_false, Bool.or_true, Nat.reduceAdd, Nat.reduceSub, Nat.reduceMul, Nat.zero_add, evK_go, reduceIte, decide_false, Nat.reduceEqDiff, Nat.reduceLT, true_and, and_true, Nat.lt_irrefl, Int.zero_add, List.drop_zero]
      refine OrH.l (OrH.l ⟨⟨hout.2.1, hout2.2.2⟩, ?_⟩)
      refine loopW (fun k : Nat => { tm := slots 66 [(0, .d (I .i64 (m : Int))), (7, .d (.l ((outS m L).map U))), (11, .d (.l ((outS m (L.map flip)).map U))), (12, .o 0 0 k), (42, .d (I .i64 (m : Int))), (43, .d (I .i64 k))], bx := [], rw := [some ⟨1, (((List.range m).take k).map (part m L)).map nD⟩] })
        (fun k => k ≤ m) (fun k => m - k) 0 (by simp) ?_ ?_
      · refine Wkn.of [] [none] ?_
        simp (implicitDefEqProofs := false) (dsimp := false) only [↓optK_some, ↓row_xs, ↓take_map, List.getD_cons_zero, List.getD_cons_succ, List.set_cons_zero, List.set_cons_succ, List.map_nil, Bool.and_self, Nat.reduceAdd, Nat.reduceSub, Nat.reduceMul, List.replicate, evK_go, reduceIte, Nat.reduceEqDiff, Nat.reduceLT, and_self, not_false_eq_true, List.drop_zero, List.take_zero, List.foldl_cons, List.foldl_nil, Int.cast_ofNat_Int, slots, wkL_nil, wkL_cons, wkB_nil, wkR_nil, wkR_new, wkV_j, wkV_d, nlK_nl, wkV_o, frz_d, frz_o, oK_zn, dl_eq, reduceCtorEq, List.mem_cons, List.not_mem_nil, or_self]
      · intro k hk
        simp (implicitDefEqProofs := false) (dsimp := false) only [slots, ↓aw_cond, ↓aw_seq, ↓aw_reg, ↓Qseq_n, ↓ops_nil, ↓ops_cons, ↓eval_tmp, ↓put_some, ↓bK_b, ↓binE_i, ↓bi_lss, ↓op_bin, List.getD_cons_zero, List.getD_cons_succ, List.set_cons_zero, List.set_cons_succ, Nat.reduceAdd, Nat.reduceSub, Nat.reduceMul, List.replicate, evK_go, reduceIte, Nat.reduceEqDiff, Nat.reduceLT, List.foldl_cons, List.foldl_nil, Int.ofNat_lt]
        refine cdK_dec (fun h => ?_) (fun h => ?_)
        · simp (implicitDefEqProofs := false) (dsimp := false) only [h, below_call, reach_call, list_callD, ↓optK_some, ↓rwK_mk_, ↓atK_H, ↓atH_map, ↓aw_seq, ↓aw_block, ↓aw_skip, ↓aw_reg, ↓Qseq_n, ↓Qblk_n, ↓ops_nil, ↓ops_cons, ↓eval_tmp, ↓eval_int, ↓eval_func, ↓put_some, ↓iK_i, ↓dK_d, ↓binE_i, ↓bi_add, ↓bi_and, ↓in_i64, ↓ldK_q, ↓iaK_l, ↓op_move, ↓op_assign, ↓op_load, ↓op_bin, ↓op_ia, ↓op_append, ↓op_call, isD_d, ↓fnK_f, ↓call_H, ↓callK_H, ↓allT_nil, ↓allT_cons, ↓allD_nil, ↓allD_cons, ↓td_d, ↓app_mk, ↓row_sz, ↓row_xs, kill_d, kill_j, kill_o, ↓cells_c, ↓one_i, ↓ap_, ↓ap_o, ↓src_l, ↓bs_, ↓op_bs, ↓bsL_f, ↓stored_mk, ↓sl_nil, ↓sl_cons, ↓sT_move, ↓sT_assign, ↓sT_load, ↓sT_ia, ↓sT_bs, ↓sT_call, ↓vsz_int, ↓inO_1, ↓fm_nil, ↓fm_cons, ↓hd_cons, ↓ty3, ↓zb3, ↓sl28, List.getD_cons_zero, List.getD_cons_succ, List.set_cons_zero, List.set_cons_succ, List.append_nil, List.map_cons, List.map_nil, List.length_cons, List.length_nil, List.length_map, List.all_cons, List.all_nil, Bool.true_and, Bool.and_self, Bool.true_or, Bool.or_false, Nat.reduceAdd, Nat.reduceSub, Nat.reduceMul, Nat.zero_add, Int.toNat_zero, evK_go, reduceIte, decide_true, Nat.reduceEqDiff, Nat.reduceLT, and_self, true_and, Int.zero_add, List.drop_zero]
          have h1 := outS_len m L
          have h2 := outS_len m (L.map flip)
          have h3 := both_lt (n := m) (by omega) hg h
          have hp := part_pts (n := m) (by omega) hg h
          have hpos : 0 < (pts (rs m L k &&& rs m (L.map flip) k)).length := List.length_pos_iff.2 hp
          have h4 : 2 ^ m - 1 < 2 ^ m := by have := Nat.one_le_two_pow (n := m); omega
          refine OrH.l (OrH.l ⟨by omega, OrH.l (OrH.l ⟨⟨by omega, by omega, by rw [h1]; exact h4, outS_lt' (by omega) hg⟩, OrH.l (OrH.l ⟨by omega, OrH.l (OrH.l ⟨⟨by omega, by omega, by rw [h2]; exact h4, outS_lt' (by omega) hg.flip⟩, ⟨h3.1, h3.2.1⟩, OrH.l (OrH.l ⟨h3.2.2, by omega, by rw [ptsI, List.length_map]; exact hpos, by decide, ⟨fun _ => trivial, by simp; omega, by omega, by omega⟩, by omega, k + 1, by omega, by omega, ?_⟩)⟩)⟩)⟩)⟩)
          refine Wkn.of [] [some 0] ?_
          have e1 : (ptsI (rs m L k &&& rs m (L.map flip) k)).getD 0 default = (part m L k : Int) := by
            unfold part low ptsI
            cases hpp : pts (rs m L k &&& rs m (L.map flip) k) with
            | nil => exact absurd hpp hp
            | cons x t => rfl
          unfold rs at e1
          have e2 : (List.range m).take (k + 1) = (List.range m).take k ++ [k] := by
            rw [take_succ_getD (by simpa using h), List.getD_eq_getElem?_getD, List.getElem?_range h]; rfl
          simp (implicitDefEqProofs := false) (dsimp := false) only [e1, e2, List.map_append, nD, List.getD_cons_zero, List.set_cons_zero, List.set_cons_succ, List.map_cons, List.map_nil, Bool.and_self, Nat.reduceAdd, Nat.reduceSub, Nat.reduceMul, List.replicate, evK_go, reduceIte, Nat.reduceEqDiff, Nat.reduceLT, and_self, List.foldl_cons, List.foldl_nil, Int.cast_ofNat_Int, Int.natCast_add, slots, wkL_nil, wkL_cons, wkB_nil, wkR_nil, wkR_some, wkV_j, wkV_d, wkV_o, frz_d, oK_zs, reduceCtorEq]
        · obtain rfl : k = m := by omega
          have e1 : (List.range k).take k = List.range k := List.take_of_length_le (by simp)
          have e2 : List.take k (List.map nD (List.map (part k L) (List.range k))) = (strongP k L).map nD := List.take_of_length_le (by simp)
          simp (implicitDefEqProofs := false) (dsimp := false) only [e1, e2, erD_0, eval_nilI, ↓optK_some, ↓rwK_mk_, ↓aw_seq, ↓aw_exit, ↓aw_ret, ↓aw_reg, ↓Qseq_n, ↓Qseq_x, ↓Qblk_x, ↓Qret_r, ↓ops_nil, ↓ops_cons, ↓eval_tmp, ↓put_some, ↓op_move, ↓op_assign, ↓td_d, ↓td_o, ↓ret_2, ↓row_xs, List.getD_cons_zero, List.getD_cons_succ, List.set_cons_zero, List.set_cons_succ, Nat.reduceAdd, Nat.reduceSub, Nat.reduceMul, evK_go, reduceIte, decide_false, Nat.reduceEqDiff, Nat.reduceLT, Nat.lt_irrefl, List.drop_zero]
end Go.Proofs

namespace Go.Proofs
open Go.Aw
set_option linter.unusedSimpArgs false
set_option maxRecDepth 10000
theorem spartsS_spec (n : Int) (l : List (Int × Int)) (hpre : l.length < 2 ^ 62) : FnD Try.prog 43 [I .i64 n, .l (l.map lnD)] (.t [.l ((strongR n l).map nD), erD (chk n l)]) := by
  exact sparts_spec n l hpre
theorem spartsS_call (n : Int) (l : List (Int × Int)) (pure : Bool) (σ : St) (dst : Option Tmp) (K : St → Prop) : CallH Try.prog 43 [I .i64 n, .l (l.map lnD)] pure σ dst (.mk : Hid K) = OrH ((l.length < 2 ^ 62) ∧ (pure || D.flat (.t [.l ((strongR n l).map nD), erD (chk n l)])) = true ∧ evK (σ.put dst (.d (.t [.l ((strongR n l).map nD), erD (chk n l)]))) (.mk : Hid K)) (.mk : Hid (CallH Try.prog 43 [I .i64 n, .l (l.map lnD)] pure σ dst (.mk : Hid K))) := CallH.eq (spartsS_spec n l) pure σ dst K
theorem spartsS_callQ (n : Int) (l : List (Int × Int)) (pure : Bool) (C : V → Prop) : CallQ Try.prog 43 [I .i64 n, .l (l.map lnD)] pure (.mk : Hid C) = OrH ((l.length < 2 ^ 62) ∧ (pure || D.flat (.t [.l ((strongR n l).map nD), erD (chk n l)])) = true ∧ evK (V.d (.t [.l ((strongR n l).map nD), erD (chk n l)])) (.mk : Hid C)) (.mk : Hid (CallQ Try.prog 43 [I .i64 n, .l (l.map lnD)] pure (.mk : Hid C))) := CallQ.eq (spartsS_spec n l) pure C
def foldO (n : Int) (l : List (Int × Int)) : List Nat := if chk n l = 0 then fOut n.toNat (natL l) else []
def foldL (n : Int) (l : List (Int × Int)) : List (Nat × Nat) := if chk n l = 0 then fLines n.toNat (natL l) else []
theorem cross_succ (out : List Nat) {l : List (Nat × Nat)} {k : Nat} (h : k < l.length) : crossL out (l.take (k + 1)) = crossL out (l.take k) ++ (if out.getD (l.getD k default).1 default ≠ out.getD (l.getD k default).2 default then [(out.getD (l.getD k default).1 default, out.getD (l.getD k default).2 default)] else []) := by
  unfold crossL
  rw [take_succ_getD h, List.map_append, List.filter_append]
  congr 1
  simp (implicitDefEqProofs := false) (dsimp := false) only [List.map_cons, List.map_nil, List.filter_cons, List.filter_nil]
  split <;> simp_all
theorem nD_get (s : List Nat) (i : Nat) : nD (s.getD i default) = nD (s.getD i default) := rfl
theorem fold_spec (n : Int) (l : List (Int × Int)) (hpre : l.length < 2 ^ 62) : FnD Try.prog 59 [I .i64 n, .l (l.map lnD)] (.t [.l ((foldO n l).map nD), .l ((foldL n l).map lnN), erD (chk n l)]) := by
  refine FnD.go Try.func59 rfl rfl Try.results59 Try.ntmps59 ?_
  simp (implicitDefEqProofs := false) (dsimp := false) only [↓aw_seq, ↓aw_reg, ↓Qseq_n, ↓ops_nil, ↓ops_cons, ↓eval_tmp, ↓eval_nil, ↓eval_func, ↓put_some, ↓op_move, ↓op_assign, ↓op_call, isD_d, ↓fnK_f, ↓call_H, ↓callK_H, ↓allT_nil, ↓allT_cons, ↓td_d, List.getD_cons_zero, List.getD_cons_succ, List.set_cons_zero, List.set_cons_succ, List.cons_append, List.nil_append, List.append_nil, List.map_cons, List.map_nil, List.length_cons, List.length_nil, List.all_cons, List.all_nil, Bool.and_self, Nat.reduceAdd, Nat.reduceSub, Nat.reduceMul, Nat.zero_add, List.replicate, evK_go, reduceIte, Nat.reduceEqDiff, Nat.reduceLT, and_self, Int.zero_add]
  simp (implicitDefEqProofs := false) (dsimp := false) only [spartsS_call, eval_nilI, ↓er_neq, ↓cdK_not, ↓nthK_H, ↓nthH_zero, ↓nthH_succ, ↓aw_cond, ↓aw_seq, ↓aw_reg, ↓Qseq_n, ↓ops_nil, ↓ops_cons, ↓eval_tmp, ↓put_some, ↓bK_b, ↓tK_t, ↓op_move, ↓op_assign, ↓op_bin, ↓op_extract, List.getD_cons_zero, List.getD_cons_succ, List.set_cons_zero, List.set_cons_succ, Bool.true_and, Bool.true_or, Nat.reduceAdd, Nat.reduceSub, Nat.reduceMul, evK_go, reduceIte, Nat.reduceEqDiff, Nat.reduceLT, true_and]
  refine OrH.l (OrH.l ⟨hpre, ?_⟩)
  refine cdK_dec (fun hc => ?_) (fun hc => ?_)
  rotate_left
  · simp (implicitDefEqProofs := false) (dsimp := false) only [foldO, foldL, hc, ↓aw_seq, ↓aw_ret, ↓aw_reg, ↓Qseq_n, ↓Qseq_r, ↓Qret_r, ↓ops_nil, ↓ops_cons, ↓eval_tmp, ↓eval_nil, ↓put_some, ↓op_move, ↓op_assign, ↓td_d, ↓td_nl, ↓ret_3, List.getD_cons_zero, List.getD_cons_succ, List.set_cons_zero, List.set_cons_succ, List.map_nil, Nat.reduceAdd, Nat.reduceSub, Nat.reduceMul, evK_go, reduceIte, decide_false, Bool.not_false, Nat.reduceEqDiff, Nat.reduceLT]
  have ok := chk_ok hc
  rw [show foldO n l = fOut n.toNat (natL l) from if_pos hc, show foldL n l = fLines n.toNat (natL l) from if_pos hc, show strongR n l = strongP n.toNat (natL l) from if_pos hc, lnD_nat ok.rng, hc]
  have hg := ok.good
  have h8 := ok.hi
  have e0 := ok.n0
  have h24 : (natL l).length ≤ 24 := by rw [natL_len]; exact ok.len
  clear ok hc hpre
  generalize n.toNat = m at *
  subst e0
  generalize natL l = L at *
  have hn : m ≤ 64 := by omega
  obtain ⟨P, hP⟩ : ∃ P, P = strongP m L := ⟨_, rfl⟩
  have hPl : P.length = m := by rw [hP]; simp [strongP]
  have hPlt : ∀ i, i < m → P.getD i default < m := fun i hi => by rw [hP]; exact P_lt hn hg hi
  rw [← hP]
  simp (implicitDefEqProofs := false) (dsimp := false) only [↓aw_seq, ↓aw_block, ↓aw_skip, ↓aw_loop, ↓aw_reg, ↓Qseq_n, ↓ops_nil, ↓ops_cons, ↓eval_tmp, ↓eval_int, ↓put_some, ↓iK_i, ↓dK_d, ↓lenK_l, ↓op_move, ↓op_assign, ↓op_len, ↓op_make, ↓addRow_mk, ↓st_rw, ↓cells_c, ↓one_i, constV_i, ↓mk_, ↓vsz_int, ↓ty3, ↓zb3, ↓sl28, List.getD_cons_zero, List.getD_cons_succ, List.set_cons_zero, List.set_cons_succ, List.nil_append, List.length_cons, List.length_nil, List.length_map, List.all_cons, List.all_nil, Bool.and_true, Bool.true_and, Bool.and_self, Nat.reduceAdd, Nat.reduceSub, Nat.reduceMul, Nat.zero_add, Int.toNat_natCast, evK_go, reduceIte, decide_true, Bool.not_true, Nat.reduceEqDiff, Nat.reduceLT, and_self, true_and, and_true, Int.zero_add, Int.natCast_nonneg]
  simp (implicitDefEqProofs := false) (dsimp := false) only [hPl]
  refine ⟨⟨by omega, by decide⟩, ?_⟩
  refine loopW (fun k : Nat => { tm := slots 120 [(0, .d (I .i64 (m : Int))), (1, .d (.l (L.map lnN))), (7, .d (.l (P.map nD))), (9, .o 0 0 m), (10, .d (I .i64 ((numS m P k).2 : Int))), (36, .d (.l (P.map nD))), (37, .d (I .i64 (m : Int))), (38, .d (I .i64 k))], bx := [], rw := [some ⟨1, (numS m P k).1.map nD⟩] })
    (fun k => k ≤ m) (fun k => m - k) 0 (by simp) ?_ ?_
  · refine Wkn.of [] [some 0] ?_
    simp (implicitDefEqProofs := false) (dsimp := false) only [numS, List.range_zero, List.foldl_nil, List.map_replicate, List.getD_cons_zero, List.set_cons_zero, List.set_cons_succ, Bool.and_true, Bool.true_and, Bool.and_self, Nat.reduceAdd, Nat.reduceSub, Nat.reduceMul, List.replicate, evK_go, reduceIte, Nat.reduceEqDiff, Nat.reduceLT, and_self, true_and, and_true, List.foldl_cons, List.foldl_nil, Int.cast_ofNat_Int, slots, wkL_nil, wkL_cons, wkB_nil, wkR_nil, wkR_some, wkV_j, wkV_d, wkV_o, frz_d, oK_zs, reduceCtorEq, Option.some.injEq]
    rfl
  · intro k hk
    obtain ⟨hn1, hn2, hn3⟩ := numS_spec m P k hk
    simp (implicitDefEqProofs := false) (dsimp := false) only [slots, ↓aw_cond, ↓aw_seq, ↓aw_reg, ↓Qseq_n, ↓ops_nil, ↓ops_cons, ↓eval_tmp, ↓put_some, ↓bK_b, ↓binE_i, ↓bi_lss, ↓op_bin, List.getD_cons_zero, List.getD_cons_succ, List.set_cons_zero, List.set_cons_succ, Nat.reduceAdd, Nat.reduceSub, Nat.reduceMul, List.replicate, evK_go, reduceIte, Nat.reduceEqDiff, Nat.reduceLT, List.foldl_cons, List.foldl_nil, Int.ofNat_lt]
    refine cdK_dec (fun h => ?_) (fun h => ?_)
    · have hkP : k < P.length := by omega
      have hrk := rank_le P k
      simp (implicitDefEqProofs := false) (dsimp := false) only [hkP, nD, ↓atK_H, ↓atH_map, ↓aw_cond, ↓aw_seq, ↓aw_block, ↓aw_skip, ↓aw_reg, ↓Qseq_n, ↓ops_nil, ↓ops_cons, ↓eval_tmp, ↓put_some, ↓bK_b, ↓iK_i, ↓binE_i, ↓bi_eql, ↓ldK_q, ↓iaK_l, ↓op_move, ↓op_assign, ↓op_load, ↓op_bin, ↓op_ia, ↓cells_c, ↓hd_cons, ↓ty3, ↓sl28, List.getD_cons_zero, List.getD_cons_succ, List.set_cons_zero, List.set_cons_succ, List.length_cons, List.length_nil, Bool.true_and, Nat.reduceAdd, Nat.reduceSub, Nat.reduceMul, Nat.zero_add, Int.toNat_natCast, evK_go, reduceIte, Nat.reduceEqDiff, Nat.reduceLT, true_and, Int.zero_add, Int.natCast_nonneg, Int.natCast_inj]
      refine cdK_dec (fun hr => ?_) (fun hr => ?_)
      · have hr' : isRoot P k = true := by simp (implicitDefEqProofs := false) (dsimp := false) only [isRoot, decide_eq_true_eq]; omega
        have hk1 : k < (numS m P k).1.length := by omega
        simp (implicitDefEqProofs := false) (dsimp := false) only [h, ↓optK_some, ↓rwK_mk_, ↓aw_seq, ↓aw_reg, ↓Qseq_n, ↓Qblk_n, ↓ops_nil, ↓ops_cons, ↓eval_tmp, ↓eval_int, ↓put_some, ↓put_none, ↓iK_i, ↓dK_d, ↓binE_i, ↓bi_add, ↓in_i64, ↓iaK_o, ↓op_move, ↓op_assign, ↓op_bin, ↓op_ia, ↓op_store, ↓setRow_mk, ↓row_sz, ↓row_xs, ↓cells_c, ↓one_i, ↓st_e, ↓ty3, ↓sl28, List.getD_cons_zero, List.getD_cons_succ, List.set_cons_zero, List.set_cons_succ, List.length_cons, List.length_nil, List.all_cons, List.all_nil, Bool.true_and, Bool.and_self, Nat.reduceAdd, Nat.reduceSub, Nat.reduceMul, Nat.zero_add, Int.toNat_natCast, evK_go, reduceIte, decide_true, Nat.reduceEqDiff, Nat.reduceLT, and_self, true_and, Int.zero_add, Int.ofNat_lt, Int.natCast_nonneg]
        refine ⟨by omega, by omega, k + 1, by omega, by omega, ?_⟩
        refine Wkn.of [] [some 0] ?_
        have e : numS m P (k + 1) = ((numS m P k).1.set k (numS m P k).2, (numS m P k).2 + 1) := by rw [numS_succ, numI, if_pos hr']
        simp (implicitDefEqProofs := false) (dsimp := false) only [e, List.map_set, nD, List.getD_cons_zero, List.set_cons_zero, List.set_cons_succ, Bool.and_self, Nat.reduceAdd, Nat.reduceSub, Nat.reduceMul, List.replicate, evK_go, reduceIte, Nat.reduceEqDiff, Nat.reduceLT, and_self, List.foldl_cons, List.foldl_nil, Int.cast_ofNat_Int, Int.natCast_add, slots, wkL_nil, wkL_cons, wkB_nil, wkR_nil, wkR_some, wkV_j, wkV_d, wkV_o, frz_d, oK_zs, reduceCtorEq]
      · have hr' : isRoot P k = false := by simp (implicitDefEqProofs := false) (dsimp := false) only [isRoot, decide_eq_false_iff_not]; omega
        simp (implicitDefEqProofs := false) (dsimp := false) only [↓aw_skip, ↓aw_reg, ↓Qseq_n, ↓Qblk_n, ↓ops_nil, ↓ops_cons, ↓eval_tmp, ↓eval_int, ↓put_some, ↓binE_i, ↓bi_add, ↓in_i64, ↓op_move, ↓op_bin, List.getD_cons_zero, List.getD_cons_succ, List.set_cons_zero, List.set_cons_succ, Nat.reduceAdd, Nat.reduceSub, Nat.reduceMul, evK_go, reduceIte, Nat.reduceEqDiff, Nat.reduceLT]
        refine ⟨by omega, k + 1, by omega, by omega, ?_⟩
        refine Wkn.of [] [some 0] ?_
        have e : numS m P (k + 1) = numS m P k := by rw [numS_succ, numI, if_neg (by rw [hr']; decide)]
        simp (implicitDefEqProofs := false) (dsimp := false) only [e, List.getD_cons_zero, List.set_cons_zero, List.set_cons_succ, Bool.and_self, Nat.reduceAdd, Nat.reduceSub, Nat.reduceMul, List.replicate, evK_go, reduceIte, Nat.reduceEqDiff, Nat.reduceLT, and_self, List.foldl_cons, List.foldl_nil, Int.cast_ofNat_Int, Int.natCast_add, slots, wkL_nil, wkL_cons, wkB_nil, wkR_nil, wkR_some, wkV_j, wkV_d, wkV_o, frz_d, oK_zs, reduceCtorEq]
    · obtain rfl : k = m := by omega
      simp (implicitDefEqProofs := false) (dsimp := false) only [↓aw_seq, ↓aw_block, ↓aw_exit, ↓aw_loop, ↓aw_reg, ↓Qseq_n, ↓Qseq_x, ↓Qblk_x, ↓ops_nil, ↓ops_cons, ↓eval_tmp, ↓eval_int, ↓put_some, ↓iK_i, ↓dK_d, ↓lenK_l, ↓op_move, ↓op_assign, ↓op_len, ↓op_make, ↓addRow_mk, ↓st_rw, ↓cells_c, ↓one_i, constV_i, ↓mk_, ↓vsz_int, ↓ty3, ↓zb3, ↓sl28, List.getD_cons_zero, List.getD_cons_succ, List.set_cons_zero, List.set_cons_succ, List.cons_append, List.nil_append, List.length_cons, List.length_nil, List.length_map, List.all_cons, List.all_nil, Bool.and_true, Bool.true_and, Bool.and_self, Nat.reduceAdd, Nat.reduceSub, Nat.reduceMul, Nat.zero_add, Int.toNat_natCast, evK_go, reduceIte, decide_false, Nat.reduceEqDiff, Nat.reduceLT, and_self, true_and, and_true, Nat.lt_irrefl, Int.zero_add, Int.natCast_nonneg]
      have hNl : (numS k P k).1.length = k := hn1
      have hMk : fMany k L = (numS k P k).2 := by rw [fMany, ← hP]
      have hMle := fMany_le (n := k) (l := L)
      have hOut : fOut k L = (List.range k).map fun i => (numS k P k).1.getD (P.getD i default) default := by rw [fOut, fOutP, ← hP]
      have hOl : (fOut k L).length = k := by rw [hOut]; simp
      have hOlt : ∀ i, i < k → (fOut k L).getD i default < fMany k L := fun i hi => fOut_lt hn hg hi
      have hcl := cross_lt hn hg
      rw [hMk] at hOlt hcl hMle
      refine ⟨⟨by omega, by decide⟩, ?_⟩
      refine loopW (fun q : Nat => { tm := slots 120 [(0, .d (I .i64 (k : Int))), (1, .d (.l (L.map lnN))), (9, .d (.l ((numS k P k).1.map nD))), (10, .d (I .i64 ((numS k P k).2 : Int))), (13, .o 0 0 k), (55, .d (.l (P.map nD))), (56, .d (I .i64 (k : Int))), (57, .d (I .i64 q))], bx := [], rw := [some ⟨1, ((List.range k).map fun i => if i < q then (numS k P k).1.getD (P.getD i default) default else 0).map nD⟩] })
        (fun q => q ≤ k) (fun q => k - q) 0 (by simp) ?_ ?_
      · refine Wkn.of [] [some 1] ?_
        have e2 : List.take k ((numS k P k).1.map nD) = (numS k P k).1.map nD := List.take_of_length_le (by simp [hNl])
        simp (implicitDefEqProofs := false) (dsimp := false) only [hPl, e2, part_zero, List.map_replicate, nD, ↓optK_some, ↓row_xs, List.getD_cons_zero, List.getD_cons_succ, List.set_cons_zero, List.set_cons_succ, Bool.and_self, Nat.reduceAdd, Nat.reduceSub, Nat.reduceMul, List.replicate, evK_go, reduceIte, Nat.reduceEqDiff, Nat.reduceLT, and_self, not_false_eq_true, List.drop_zero, List.foldl_cons, List.foldl_nil, Int.cast_ofNat_Int, slots, wkL_nil, wkL_cons, wkB_nil, wkR_nil, wkR_some, wkV_j, wkV_d, wkV_o, frz_d, frz_o, oK_zs, dl_eq, reduceCtorEq, List.mem_cons, List.not_mem_nil, or_self, Option.some.injEq]
      · intro q hq
        simp (implicitDefEqProofs := false) (dsimp := false) only [slots, ↓aw_cond, ↓aw_seq, ↓aw_reg, ↓Qseq_n, ↓ops_nil, ↓ops_cons, ↓eval_tmp, ↓put_some, ↓bK_b, ↓binE_i, ↓bi_lss, ↓op_bin, List.getD_cons_zero, List.getD_cons_succ, List.set_cons_zero, List.set_cons_succ, Nat.reduceAdd, Nat.reduceSub, Nat.reduceMul, List.replicate, evK_go, reduceIte, Nat.reduceEqDiff, Nat.reduceLT, List.foldl_cons, List.foldl_nil, Int.ofNat_lt]
        refine cdK_dec (fun h => ?_) (fun h => ?_)
        · have hqP : q < P.length := by omega
          have hPq := hPlt q h
          have hPN : P.getD q default < (numS k P k).1.length := by omega
          simp (implicitDefEqProofs := false) (dsimp := false) only [h, hqP, hPN, nD, ↓optK_some, ↓rwK_mk_, ↓atK_H, ↓atH_map, ↓aw_seq, ↓aw_block, ↓aw_skip, ↓aw_reg, ↓Qseq_n, ↓Qblk_n, ↓ops_nil, ↓ops_cons, ↓eval_tmp, ↓eval_int, ↓put_some, ↓put_none, ↓iK_i, ↓dK_d, ↓binE_i, ↓bi_add, ↓in_i64, ↓ldK_q, ↓iaK_l, ↓iaK_o, ↓op_move, ↓op_assign, ↓op_load, ↓op_bin, ↓op_ia, ↓op_store, ↓setRow_mk, ↓row_sz, ↓row_xs, ↓cells_c, ↓one_i, ↓st_e, ↓hd_cons, ↓ty3, ↓sl28, List.getD_cons_zero, List.getD_cons_succ, List.set_cons_zero, List.set_cons_succ, List.length_cons, List.length_nil, List.all_cons, List.all_nil, Bool.true_and, Bool.and_self, Nat.reduceAdd, Nat.reduceSub, Nat.reduceMul, Nat.zero_add, Int.toNat_natCast, evK_go, reduceIte, decide_true, Nat.reduceEqDiff, Nat.reduceLT, and_self, true_and, Int.zero_add, Int.ofNat_lt, Int.natCast_nonneg]
          refine ⟨by omega, q + 1, by omega, by omega, ?_⟩
          refine Wkn.of [] [some 0] ?_
          have e := part_set (fun i => (numS k P k).1.getD (P.getD i default) default) 0 h
          simp (implicitDefEqProofs := false) (dsimp := false) only [e, List.map_set, nD, List.getD_cons_zero, List.set_cons_zero, List.set_cons_succ, Bool.and_self, Nat.reduceAdd, Nat.reduceSub, Nat.reduceMul, List.replicate, evK_go, reduceIte, Nat.reduceEqDiff, Nat.reduceLT, and_self, List.foldl_cons, List.foldl_nil, Int.cast_ofNat_Int, Int.natCast_add, slots, wkL_nil, wkL_cons, wkB_nil, wkR_nil, wkR_some, wkV_j, wkV_d, wkV_o, frz_d, oK_zs, reduceCtorEq]
        · obtain rfl : q = k := by omega
          simp (implicitDefEqProofs := false) (dsimp := false) only [part_all, ← hOut, ↓aw_seq, ↓aw_block, ↓aw_exit, ↓aw_loop, ↓aw_reg, ↓Qseq_n, ↓Qseq_x, ↓Qblk_x, ↓ops_nil, ↓ops_cons, ↓eval_tmp, ↓eval_int, ↓put_some, ↓iK_i, ↓dK_d, ↓lenK_l, ↓op_move, ↓op_assign, ↓op_len, ↓op_make, ↓addRow_mk, ↓st_rw, ↓cells_c, ↓one_i, constV_i, ↓mk_, ↓vsz_int, ↓sl22, ↓sl84, ↓ty87, ↓zb87, List.getD_cons_zero, List.getD_cons_succ, List.set_cons_zero, List.set_cons_succ, List.cons_append, List.nil_append, List.length_cons, List.length_nil, List.length_map, List.all_cons, List.all_nil, Bool.and_true, Bool.true_and, Bool.and_self, Nat.reduceAdd, Nat.reduceSub, Nat.reduceMul, Nat.zero_add, Int.toNat_natCast, evK_go, reduceIte, decide_false, Nat.reduceEqDiff, Nat.reduceLT, and_self, true_and, and_true, Nat.lt_irrefl, Int.zero_add, Int.natCast_nonneg]
          generalize (numS q P q).1 = NUM at *
          generalize (numS q P q).2 = MANY at *
          generalize hO : fOut q L = O at *
          have eNext : fNext q L = outS MANY (crossL O L) := by rw [fNext, hO, hMk]
          have eLines : fLines q L = linesK (fNext q L) MANY := by rw [fLines, hMk]
          refine ⟨⟨by omega, by decide⟩, ?_⟩
          refine loopW (fun k : Nat => { tm := slots 120 [(10, .d (I .i64 (MANY : Int))), (13, .d (.l (O.map nD))), (16, .o 0 0 MANY), (72, .d (.l (L.map lnN))), (73, .d (I .i64 L.length)), (74, .d (I .i64 k))], bx := [], rw := [some ⟨1, (outS MANY (crossL O (L.take k))).map U⟩] })
            (fun k => k ≤ L.length) (fun k => L.length - k) 0 (by simp) ?_ ?_
          · refine Wkn.of [] [some 1] ?_
            have e2 : List.take q (O.map nD) = O.map nD := List.take_of_length_le (by simp [hOl])
            simp (implicitDefEqProofs := false) (dsimp := false) only [e2, crossL, outS, List.take_zero, List.filter_nil, List.map_replicate, ↓optK_some, ↓row_xs, List.getD_cons_zero, List.getD_cons_succ, List.set_cons_zero, List.set_cons_succ, List.map_nil, Bool.and_true, Bool.true_and, Bool.and_self, Nat.reduceAdd, Nat.reduceSub, Nat.reduceMul, List.replicate, evK_go, reduceIte, Nat.reduceEqDiff, Nat.reduceLT, and_self, true_and, and_true, ne_eq, not_false_eq_true, List.drop_zero, List.take_zero, List.foldl_cons, List.foldl_nil, Int.cast_ofNat_Int, slots, wkL_nil, wkL_cons, wkB_nil, wkR_nil, wkR_some, wkV_j, wkV_d, wkV_o, frz_d, frz_o, oK_zs, dl_eq, reduceCtorEq, List.mem_cons, List.not_mem_nil, or_self, Option.some.injEq]
            rfl
          · intro k hkL
            simp (implicitDefEqProofs := false) (dsimp := false) only [slots, ↓aw_cond, ↓aw_seq, ↓aw_reg, ↓Qseq_n, ↓ops_nil, ↓ops_cons, ↓eval_tmp, ↓put_some, ↓bK_b, ↓binE_i, ↓bi_lss, ↓op_bin, List.getD_cons_zero, List.getD_cons_succ, List.set_cons_zero, List.set_cons_succ, Nat.reduceAdd, Nat.reduceSub, Nat.reduceMul, List.replicate, evK_go, reduceIte, Nat.reduceEqDiff, Nat.reduceLT, List.foldl_cons, List.foldl_nil, Int.ofNat_lt]
            refine cdK_dec (fun hkl => ?_) (fun hkl => ?_)
            · obtain ⟨hA, hB⟩ := hg _ (getD_mem hkl)
              have hAO : (L.getD k default).1 < O.length := by omega
              have hBO : (L.getD k default).2 < O.length := by omega
              have hAv := hOlt _ hA
              have hBv := hOlt _ hB
              simp (implicitDefEqProofs := false) (dsimp := false) only [hkl, hAO, hBO, nD, lnN_cells, ↓cdK_not, ↓atK_H, ↓atH_map, ↓nthK_H, ↓nthH_zero, ↓nthH_succ, ↓aw_cond, ↓aw_seq, ↓aw_block, ↓aw_skip, ↓aw_reg, ↓aw_draw, ↓Qseq_n, ↓ops_nil, ↓ops_cons, ↓eval_tmp, ↓put_some, ↓put_none, ↓bK_b, ↓iK_i, ↓ev_move, ↓ev_assign, ↓ev_load, ↓ev_fa, ↓ev_ia, ↓binE_i, ↓bi_neq, ↓ldK_q, ↓ldK_p, ↓faK_p, ↓iaK_l, ↓op_move, ↓op_load, ↓op_bin, ↓op_ia, ↓op_alloc, ↓op_store, ↓draw_H, ↓h_nil, ↓h_cons, ↓ldH_n, ↓q_move, ↓q_assign, ↓q_load, ↓q_fa, ↓q_ia, ↓il_move, ↓il_assign, ↓il_load, ↓il_fa, ↓il_ia, ↓addBox_mk, ↓setBox_mk, ↓st_bx, ↓cells_c, ↓vcells_s, ↓one_i, ↓vone_d, constV_a, ↓st_p, ↓hd_cons, ↓ty3, ↓sl22, ↓sl28, ↓ty35, ↓zb35, ↓fd35_0, ↓fd35_1, List.getD_cons_zero, List.getD_cons_succ, List.set_cons_zero, List.set_cons_succ, List.nil_append, List.map_cons, List.map_nil, List.length_cons, List.length_nil, List.all_cons, List.all_nil, Bool.true_and, Bool.and_self, Nat.reduceAdd, Nat.reduceSub, Nat.reduceMul, Nat.zero_add, Nat.add_zero, Int.toNat_natCast, evK_go, reduceIte, decide_true, Nat.reduceEqDiff, Nat.reduceLT, and_self, true_and, Int.zero_add, List.take_succ_cons, List.take_nil, Int.natCast_nonneg, Int.natCast_inj]
              refine ⟨by decide, OrH.l ⟨DrawH.of follows_mixed (by kernel_rfl), ?_⟩⟩
              have hcs := cross_succ O hkl
              have hcsub : ∀ p ∈ crossL O (L.take k), p.1 < MANY ∧ p.2 < MANY := fun p hp => hcl p (by
                obtain ⟨x, hx, e⟩ := List.mem_map.1 (List.mem_filter.1 hp).1
                exact List.mem_filter.2 ⟨List.mem_map.2 ⟨x, List.mem_of_mem_take hx, e⟩, (List.mem_filter.1 hp).2⟩)
              have hnl := outS_len MANY (crossL O (L.take k))
              have hnt := outS_lt MANY (crossL O (L.take k)) (fun p hp => by have := hcsub p hp; omega)
              refine cdK_dec (fun hab => ?_) (fun hab => ?_)
              · simp (implicitDefEqProofs := false) (dsimp := false) only [↓aw_skip, ↓aw_reg, ↓Qseq_n, ↓Qblk_n, ↓ops_nil, ↓ops_cons, ↓eval_tmp, ↓eval_int, ↓put_some, ↓binE_i, ↓bi_add, ↓in_i64, ↓op_move, ↓op_bin, List.getD_cons_zero, List.getD_cons_succ, List.set_cons_zero, List.set_cons_succ, Nat.reduceAdd, Nat.reduceSub, Nat.reduceMul, evK_go, reduceIte, Nat.reduceEqDiff, Nat.reduceLT]
                refine ⟨by omega, k + 1, by omega, by omega, ?_⟩
                refine Wkn.of [] [some 0] ?_
                rw [if_neg (fun h => h (by omega)), List.append_nil] at hcs
                simp (implicitDefEqProofs := false) (dsimp := false) only [hcs, List.getD_cons_zero, List.set_cons_zero, List.set_cons_succ, Bool.and_self, Nat.reduceAdd, Nat.reduceSub, Nat.reduceMul, List.replicate, evK_go, reduceIte, Nat.reduceEqDiff, Nat.reduceLT, and_self, List.foldl_cons, List.foldl_nil, Int.cast_ofNat_Int, Int.natCast_add, slots, wkL_nil, wkL_cons, wkB_nil, wkR_nil, wkR_some, wkV_j, wkV_d, wkV_o, frz_d, oK_zs, reduceCtorEq]
              · rw [if_pos (fun h => hab (by omega))] at hcs
                have h1 : O.getD (L.getD k default).1 default < (outS MANY (crossL O (L.take k))).length := by omega
                have h2 := hnt _ (getD_mem h1)
                have h3 : O.getD (L.getD k default).2 default < 64 := by omega
                simp (implicitDefEqProofs := false) (dsimp := false) only [h1, h2, h3, hAv, with_call, ↓optK_some, ↓rwK_mk_, ↓atK_H, ↓atH_map, ↓nthK_H, ↓nthH_zero, ↓aw_reg, ↓Qseq_n, ↓Qblk_n, ↓ops_nil, ↓ops_cons, ↓eval_tmp, ↓eval_int, ↓eval_func, ↓put_some, ↓put_none, ↓iK_i, ↓dK_d, ↓binE_i, ↓bi_add, ↓in_i64, ↓ldK_e, ↓iaK_o, ↓op_move, ↓op_load, ↓op_bin, ↓op_ia, ↓op_call, ↓op_store, isD_d, ↓fnK_f, ↓call_H, ↓callK_H, ↓allT_nil, ↓allT_cons, ↓td_d, ↓setRow_mk, ↓row_sz, ↓row_xs, ↓cells_c, ↓one_i, ↓st_e, ↓sl84, ↓ty87, List.getD_cons_zero, List.getD_cons_succ, List.set_cons_zero, List.set_cons_succ, List.append_nil, List.length_cons, List.length_nil, List.all_cons, List.all_nil, Bool.true_and, Bool.and_self, Bool.true_or, Nat.reduceAdd, Nat.reduceSub, Nat.reduceMul, Nat.zero_add, Int.toNat_natCast, evK_go, reduceIte, Nat.reduceEqDiff, Nat.reduceLT, and_self, true_and, Int.zero_add, Int.ofNat_lt, Int.natCast_nonneg]
                refine OrH.l (OrH.l ⟨by omega, k + 1, by omega, by omega, ?_⟩)
                refine Wkn.of [] [some 0] ?_
                simp (implicitDefEqProofs := false) (dsimp := false) only [hcs, outS_snoc, outF, List.map_set, List.getD_cons_zero, List.set_cons_zero, List.set_cons_succ, Bool.and_self, Nat.reduceAdd, Nat.reduceSub, Nat.reduceMul, List.replicate, evK_go, reduceIte, Nat.reduceEqDiff, Nat.reduceLT, and_self, List.foldl_cons, List.foldl_nil, Int.cast_ofNat_Int, Int.natCast_add, slots, wkL_nil, wkL_cons, wkB_nil, wkR_nil, wkR_some, wkV_j, wkV_d, wkV_o, frz_d, oK_zs, reduceCtorEq]
            · obtain rfl : k = L.length := by omega
              have e3 : outS MANY (crossL O (L.take L.length)) = fNext q L := by rw [List.take_length, eNext]
              have hXl : (fNext q L).length = MANY := by rw [eNext, outS_len]
              have hXt : ∀ x ∈ fNext q L, x < 2 ^ 64 := by rw [eNext]; exact outS_lt MANY _ (fun p hp => by have := hcl p hp; omega)
              simp (implicitDefEqProofs := false) (dsimp := false) only [e3, ↓optK_some, ↓rwK_mk_, ↓aw_seq, ↓aw_block, ↓aw_exit, ↓aw_loop, ↓aw_reg, ↓Qseq_n, ↓Qseq_x, ↓Qblk_x, ↓ops_nil, ↓ops_cons, ↓eval_tmp, ↓eval_int, ↓put_some, ↓lenK_o, ↓op_move, ↓op_len, ↓op_alloc, ↓addBox_mk, ↓st_bx, constV_n, ↓zb22, ↓sl84, List.getD_cons_zero, List.getD_cons_succ, List.set_cons_zero, List.set_cons_succ, List.nil_append, List.length_nil, Nat.reduceAdd, Nat.reduceSub, Nat.reduceMul, evK_go, reduceIte, decide_false, Nat.reduceEqDiff, Nat.reduceLT, Nat.lt_irrefl]
              rw [eLines]
              generalize fNext q L = X at hXl hXt ⊢
              refine loopW (fun k : Nat => { tm := slots 120 [(13, .d (.l (O.map nD))), (21, .p 0 0), (101, .d (.l (X.map U))), (102, .d (I .i64 (MANY : Int))), (103, .d (I .i64 k))], bx := [.o 0 0 (linesK X k).length], rw := [some ⟨2, (linesK X k).map lnN⟩] })
                (fun k => k ≤ MANY) (fun k => MANY - k) 0 (by simp) ?_ ?_
              · refine Wkn.of [0] [none] ?_
                have e2 : List.take MANY (X.map U) = X.map U := List.take_of_length_le (by simp [hXl])
                simp (implicitDefEqProofs := false) (dsimp := false) only [e2, linesK, List.range_zero, List.flatMap_nil, ↓optK_some, ↓row_xs, ↓vcells_nl, ↓vcells_o, List.getD_cons_zero, List.set_cons_zero, List.set_cons_succ, List.map_nil, List.length_cons, List.length_nil, Bool.and_self, Nat.reduceAdd, Nat.reduceSub, Nat.reduceMul, Nat.zero_add, List.replicate, evK_go, reduceIte, Nat.reduceEqDiff, Nat.reduceLT, and_self, not_false_eq_true, Int.zero_add, List.drop_zero, List.foldl_cons, List.foldl_nil, Int.cast_ofNat_Int, slots, wkL_nil, wkL_cons, wkB_nil, wkB_cons, wkR_nil, wkR_new, wkV_j, wkV_d, nlK_nl, wkV_o, wkV_p, frz_d, frz_o, oK_zn, pK_z, dl_eq, reduceCtorEq, List.mem_cons, List.not_mem_nil, or_self]
              · intro k hkM
                simp (implicitDefEqProofs := false) (dsimp := false) only [slots, ↓aw_cond, ↓aw_seq, ↓aw_reg, ↓Qseq_n, ↓ops_nil, ↓ops_cons, ↓eval_tmp, ↓put_some, ↓bK_b, ↓binE_i, ↓bi_lss, ↓op_bin, List.getD_cons_zero, List.getD_cons_succ, List.set_cons_zero, List.set_cons_succ, Nat.reduceAdd, Nat.reduceSub, Nat.reduceMul, List.replicate, evK_go, reduceIte, Nat.reduceEqDiff, Nat.reduceLT, List.foldl_cons, List.foldl_nil, Int.ofNat_lt]
                refine cdK_dec (fun h => ?_) (fun h => ?_)
                · have hkX : k < X.length := by omega
                  have hlt := hXt _ (getD_mem hkX)
                  simp (implicitDefEqProofs := false) (dsimp := false) only [h, hkX, each_call, ↓atK_H, ↓atH_map, ↓aw_seq, ↓aw_block, ↓aw_skip, ↓aw_rng, ↓aw_reg, ↓Qseq_n, ↓ops_nil, ↓ops_cons, ↓eval_tmp, ↓eval_func, ↓put_some, ↓put_none, ↓iK_i, ↓ldK_q, ↓iaK_l, ↓op_move, ↓op_assign, ↓op_load, ↓op_ia, ↓op_call, ↓op_alloc, ↓op_store, isD_d, ↓fnK_f, ↓call_H, ↓callK_H, ↓allT_nil, ↓allT_cons, ↓td_d, ↓addBox_mk, ↓setBox_mk, ↓st_bx, ↓cells_c, ↓vcells_c, ↓one_i, ↓vone_d, constV_i, ↓st_p, ↓hd_cons, ↓ty3, ↓zb3, ↓sl84, ↓ty87, List.getD_cons_zero, List.getD_cons_succ, List.set_cons_zero, List.set_cons_succ, List.cons_append, List.nil_append, List.append_nil, List.length_cons, List.length_nil, List.all_cons, List.all_nil, Bool.true_and, Bool.and_self, Bool.true_or, Nat.reduceAdd, Nat.reduceSub, Nat.reduceMul, Nat.zero_add, Int.toNat_natCast, evK_go, reduceIte, decide_true, Nat.reduceEqDiff, Nat.reduceLT, and_self, true_and, Int.zero_add, Int.natCast_nonneg]
                  refine OrH.l (OrH.l ?_)
                  have hKl : (linesK X k).length ≤ k * 64 := by
                    clear hkX hlt h hkM
                    induction k with
                    | zero => simp [linesK]
                    | succ k ih => rw [linesK_succ, List.length_append, List.length_map]; have := pts_len (X.getD k default); omega
                  refine rangeW (slots 120 [(13, .d (.l (O.map nD))), (21, .p 0 0), (22, .p 1 0), (101, .d (.l (X.map U))), (102, .d (I .i64 (MANY : Int))), (103, .d (I .i64 (k : Int))), (109, .d (.f (.func 99) [.q [U (X.getD k default)]]))])
                    (fun P : List Nat => [.o 0 0 ((linesK X k).length + P.length), .d (I .i64 (k : Int))]) (fun P => [some ⟨2, (linesK X k ++ P.map fun j => (k, j)).map lnN⟩]) (fun ys P => ys = P.map Int.ofNat) []
                    (by simp [slots]) (each_iter _ hlt) ?_ rfl ?_ ?_ ?_
                  · simp (implicitDefEqProofs := false) (dsimp := false) only [slots, ↓eval_tmp, List.getD_cons_zero, List.getD_cons_succ, List.set_cons_zero, List.set_cons_succ, Nat.reduceAdd, Nat.reduceSub, Nat.reduceMul, List.replicate, evK_go, reduceIte, Nat.reduceEqDiff, Nat.reduceLT, List.foldl_cons, List.foldl_nil]
                  · refine Wkn.of [0, 1] [some 0] ?_
                    simp (implicitDefEqProofs := false) (dsimp := false) only [↓vcells_c, ↓vcells_o, List.getD_cons_zero, List.getD_cons_succ, List.set_cons_zero, List.set_cons_succ, List.append_nil, List.map_nil, List.length_cons, List.length_nil, Bool.and_self, Nat.reduceAdd, Nat.reduceSub, Nat.reduceMul, Nat.zero_add, Nat.add_zero, List.replicate, evK_go, reduceIte, Nat.reduceEqDiff, Nat.reduceLT, and_self, Int.zero_add, List.foldl_cons, List.foldl_nil, slots, wkL_nil, wkL_cons, wkB_nil, wkB_cons, wkR_nil, wkR_some, wkV_j, wkV_d, wkV_o, wkV_p, frz_d, oK_zs, pK_z, pK_s, reduceCtorEq]
                  · rintro ys x P hpx rfl
                    obtain ⟨P', c, hP, rfl, hcc⟩ := prefix_map hpx
                    obtain rfl : P = P' := ofNat_inj hP
                    have h2 := hcc.length_le
                    have h3 := pts_len (X.getD k default)
                    simp (implicitDefEqProofs := false) (dsimp := false) only [List.length_append, List.length_cons, List.length_nil] at h2
                    simp (implicitDefEqProofs := false) (dsimp := false) only [slots, List.length_append, List.length_map, ↓optK_some, ↓rwK_mk_, ↓nthK_H, ↓nthH_zero, ↓aw_block, ↓aw_reg, ↓Qblk_n, ↓ops_nil, ↓ops_cons, ↓eval_tmp, ↓put_some, ↓put_none, ↓dK_d, ↓ldK_p, ↓op_move, ↓op_assign, ↓op_load, ↓op_build, ↓op_append, ↓op_store, ↓allD_nil, ↓allD_cons, ↓setBox_mk, ↓app_mk, ↓st_bx, ↓row_sz, ↓row_xs, kill_d, kill_j, kill_p, kill_o, ↓cells_c, ↓cells_s, ↓vcells_c, ↓vcells_j, ↓vcells_o, ↓one_i, ↓vone_o, ↓st_p, ↓ap_, ↓ap_o, ↓src_l, ↓bs_, ↓op_bs, ↓bsL_f, ↓stored_mk, ↓sl_nil, ↓sl_cons, ↓st_store_t, ↓sT_move, ↓sT_load, ↓sT_build, ↓sT_bs, ↓sT_call, ↓beq_some, ↓vsz_agg, ↓inO_1, ↓fm_nil, ↓fm_cons, ↓Qn_n, ↓Qrd_n, ↓back_mk, ↓ty3, ↓ty22, ↓sl22, ↓ty35, ↓zb35, ↓bd35, List.getD_cons_zero, List.getD_cons_succ, List.set_cons_zero, List.set_cons_succ, List.cons_append, List.nil_append, List.map_cons, List.map_nil, List.length_cons, List.length_nil, List.length_map, List.all_cons, List.all_nil, Bool.true_and, Bool.and_self, Bool.or_false, Nat.reduceAdd, Nat.reduceSub, Nat.reduceMul, Nat.zero_add, List.replicate, evK_go, reduceIte, decide_false, Nat.reduceEqDiff, Nat.reduceLT, and_self, true_and, Int.zero_add, List.drop_zero, List.foldl_cons, List.foldl_nil]
                    refine ⟨by decide, rfl, ⟨fun _ => trivial, by omega, by omega⟩, P ++ [c], by simp, ?_⟩
                    refine Wkn.of [0, 1] [some 0] ?_
                    simp (implicitDefEqProofs := false) (dsimp := false) only [List.map_append, List.length_append, List.append_assoc, lnN, Nat.add_assoc, ↓vcells_c, ↓vcells_o, List.getD_cons_zero, List.getD_cons_succ, List.map_cons, List.map_nil, List.length_cons, List.length_nil, Bool.and_self, Nat.reduceAdd, Nat.reduceSub, Nat.reduceMul, Nat.zero_add, evK_go, reduceIte, Nat.reduceEqDiff, Nat.reduceLT, and_self, Int.zero_add, slots, wkL_nil, wkL_cons, wkB_nil, wkB_cons, wkR_nil, wkR_some, wkV_j, wkV_d, wkV_o, wkV_p, frz_d, oK_zs, pK_z, pK_s, reduceCtorEq]
                  · rintro P hP
                    obtain rfl : pts (X.getD k default) = P := ofNat_inj hP
                    simp (implicitDefEqProofs := false) (dsimp := false) only [slots, ↓aw_reg, ↓Qseq_n, ↓Qblk_n, ↓ops_nil, ↓ops_cons, ↓eval_tmp, ↓eval_int, ↓put_some, ↓binE_i, ↓bi_add, ↓in_i64, ↓op_move, ↓op_bin, List.getD_cons_zero, List.getD_cons_succ, List.set_cons_zero, List.set_cons_succ, Nat.reduceAdd, Nat.reduceSub, Nat.reduceMul, List.replicate, evK_go, reduceIte, Nat.reduceEqDiff, Nat.reduceLT, List.foldl_cons, List.foldl_nil]
                    refine ⟨by omega, k + 1, by omega, by omega, ?_⟩
                    refine Wkn.of [0] [some 0] ?_
                    simp (implicitDefEqProofs := false) (dsimp := false) only [linesK_succ, List.length_append, List.length_map, ↓vcells_o, List.getD_cons_zero, List.length_cons, List.length_nil, List.length_map, Bool.and_self, Nat.reduceAdd, Nat.reduceSub, Nat.reduceMul, Nat.zero_add, evK_go, reduceIte, Nat.reduceEqDiff, Nat.reduceLT, and_self, Int.zero_add, Int.cast_ofNat_Int, Int.natCast_add, slots, wkL_nil, wkL_cons, wkB_nil, wkB_cons, wkR_nil, wkR_some, wkV_j, wkV_d, wkV_o, wkV_p, frz_d, oK_zs, pK_z, reduceCtorEq]
                · obtain rfl : k = MANY := by omega
                  simp (implicitDefEqProofs := false) (dsimp := false) only [eval_nilI, ↓optK_some, ↓rwK_mk_, ↓nthK_H, ↓nthH_zero, ↓aw_seq, ↓aw_exit, ↓aw_ret, ↓aw_draw, ↓Qseq_n, ↓Qseq_x, ↓Qblk_x, ↓Qret_r, ↓eval_tmp, ↓put_some, ↓ev_move, ↓ev_assign, ↓ev_load, ↓ldK_p, ↓td_d, ↓td_o, ↓ret_3, ↓draw_H, ↓h_nil, ↓h_cons, ↓ldH_n, ↓q_move, ↓q_assign, ↓q_load, ↓il_move, ↓il_assign, ↓il_load, ↓row_xs, ↓vcells_o, ↓take_map, ↓ty22, List.getD_cons_zero, List.getD_cons_succ, List.set_cons_zero, List.set_cons_succ, Nat.reduceAdd, Nat.reduceSub, Nat.reduceMul, evK_go, reduceIte, decide_false, Nat.reduceEqDiff, Nat.reduceLT, Nat.lt_irrefl, List.drop_zero]
                  refine OrH.l ⟨DrawH.of follows_mixed (by kernel_rfl), ?_⟩
                  rfl
theorem fold_call (n : Int) (l : List (Int × Int)) (pure : Bool) (σ : St) (dst : Option Tmp) (K : St → Prop) : CallH Try.prog 59 [I .i64 n, .l (l.map lnD)] pure σ dst (.mk : Hid K) = OrH ((l.length < 2 ^ 62) ∧ (pure || D.flat (.t [.l ((foldO n l).map nD), .l ((foldL n l).map lnN), erD (chk n l)])) = true ∧ evK (σ.put dst (.d (.t [.l ((foldO n l).map nD), .l ((foldL n l).map lnN), erD (chk n l)]))) (.mk : Hid K)) (.mk : Hid (CallH Try.prog 59 [I .i64 n, .l (l.map lnD)] pure σ dst (.mk : Hid K))) := CallH.eq (fold_spec n l) pure σ dst K
theorem fold_callQ (n : Int) (l : List (Int × Int)) (pure : Bool) (C : V → Prop) : CallQ Try.prog 59 [I .i64 n, .l (l.map lnD)] pure (.mk : Hid C) = OrH ((l.length < 2 ^ 62) ∧ (pure || D.flat (.t [.l ((foldO n l).map nD), .l ((foldL n l).map lnN), erD (chk n l)])) = true ∧ evK (V.d (.t [.l ((foldO n l).map nD), .l ((foldL n l).map lnN), erD (chk n l)])) (.mk : Hid C)) (.mk : Hid (CallQ Try.prog 59 [I .i64 n, .l (l.map lnD)] pure (.mk : Hid C))) := CallQ.eq (fold_spec n l) pure C
end Go.Proofs

namespace Go.Proofs
open Go.Aw
set_option linter.unusedSimpArgs false
set_option maxRecDepth 10000
theorem best_range {all : List Nat} {m : Nat} {P : List Nat} (h : ∀ x ∈ P, x < m) : P.foldl (bestK all) (-1) = -1 ∨ ∃ x : Nat, P.foldl (bestK all) (-1) = (x : Int) ∧ x < m := by
  rcases bestK_spec all P (-1) (.inl rfl) with h1 | ⟨x, h1, h2, _⟩
  · exact .inl h1.1
  · exact .inr ⟨x, h1, h x (h2.resolve_right (by omega))⟩
def lastB (m : Nat) (W : List Nat) (k : Nat) : List Int := (List.range m).map fun i => if i < k then lastI W i else 0
theorem dlast_spec (n : Int) (l : List (Int × Int)) (f : Int) (hpre : l.length < 2 ^ 62) : FnD Try.prog 54 [I .i64 n, .l (l.map lnD), I .i64 f] (.t [.l ((domLast n l f).map (I .i64)), erD (domE n l f)]) := by
  refine FnD.go Try.func54 rfl rfl Try.results54 Try.ntmps54 ?_
  simp (implicitDefEqProofs := false) (dsimp := false) only [↓aw_seq, ↓aw_reg, ↓Qseq_n, ↓ops_nil, ↓ops_cons, ↓eval_tmp, ↓eval_nil, ↓eval_func, ↓put_some, ↓op_move, ↓op_assign, ↓op_call, isD_d, ↓fnK_f, ↓call_H, ↓callK_H, ↓allT_nil, ↓allT_cons, ↓td_d, List.getD_cons_zero, List.getD_cons_succ, List.set_cons_zero, List.set_cons_succ, List.cons_append, List.nil_append, List.append_nil, List.map_cons, List.map_nil, List.length_cons, List.length_nil, List.all_cons, List.all_nil, Bool.and_self, Nat.reduceAdd, Nat.reduceSub, Nat.reduceMul, Nat.zero_add, List.replicate, evK_go, reduceIte, Nat.reduceEqDiff, Nat.reduceLT, and_self, Int.zero_add]
  simp (implicitDefEqProofs := false) (dsimp := false) only [gcheck_call, eval_nilI, ↓er_neq, er_flat, ↓cdK_not, ↓aw_cond, ↓aw_seq, ↓aw_reg, ↓Qseq_n, ↓ops_nil, ↓ops_cons, ↓eval_tmp, ↓put_some, ↓bK_b, ↓op_move, ↓op_assign, ↓op_bin, List.getD_cons_zero, List.getD_cons_succ, List.set_cons_zero, List.set_cons_succ, Bool.true_and, Bool.or_true, Nat.reduceAdd, Nat.reduceSub, Nat.reduceMul, evK_go, reduceIte, Nat.reduceEqDiff, Nat.reduceLT, true_and]
  refine OrH.l (OrH.l ⟨hpre, ?_⟩)
  refine cdK_dec (fun hc => ?_) (fun hc => ?_)
  rotate_left
  · have e : domE n l f = chk n l := if_neg hc
    have e2 : domLast n l f = [] := if_neg (by rw [e]; exact hc)
    simp (implicitDefEqProofs := false) (dsimp := false) only [e, e2, ↓aw_seq, ↓aw_ret, ↓aw_reg, ↓Qseq_n, ↓Qseq_r, ↓Qret_r, ↓ops_nil, ↓ops_cons, ↓eval_tmp, ↓eval_nil, ↓put_some, ↓op_move, ↓op_assign, ↓td_d, ↓td_nl, ↓ret_2, List.getD_cons_zero, List.getD_cons_succ, List.set_cons_zero, List.set_cons_succ, List.map_nil, Nat.reduceAdd, Nat.reduceSub, Nat.reduceMul, evK_go, reduceIte, Nat.reduceEqDiff, Nat.reduceLT]
  have ok := chk_ok hc
  have h8 := ok.hi
  have hlo := ok.lo
  have e0 := ok.n0
  simp (implicitDefEqProofs := false) (dsimp := false) only [within_call, ↓cdK_not, ↓aw_cond, ↓aw_seq, ↓aw_skip, ↓aw_reg, ↓Qseq_n, ↓ops_nil, ↓ops_cons, ↓eval_tmp, ↓eval_int, ↓eval_func, ↓put_some, ↓bK_b, ↓binE_i, ↓bi_sub, ↓in_i64, ↓op_move, ↓op_bin, ↓op_not, ↓op_call, isD_d, ↓fnK_f, ↓call_H, ↓callK_H, ↓allT_nil, ↓allT_cons, ↓td_d, List.getD_cons_zero, List.getD_cons_succ, List.set_cons_zero, List.set_cons_succ, List.append_nil, List.all_cons, List.all_nil, Bool.true_and, Bool.and_self, Bool.true_or, Nat.reduceAdd, Nat.reduceSub, Nat.reduceMul, evK_go, reduceIte, Nat.reduceEqDiff, Nat.reduceLT, and_self, true_and]
  refine ⟨by omega, ?_⟩
  (repeat refine OrH.l ?_)
  refine cdK_split (fun hf => ?_) (fun hf => ?_)
  rotate_left
  · have e : domE n l f = 1 := by unfold domE; rw [if_pos hc, hf]; rfl
    have e2 : domLast n l f = [] := if_neg (by rw [e]; decide)
    simp (implicitDefEqProofs := false) (dsimp := false) only [e, e2, nc97, erD_1, ↓aw_seq, ↓aw_ret, ↓aw_reg, ↓Qseq_n, ↓Qseq_r, ↓Qret_r, ↓ops_nil, ↓ops_cons, ↓eval_tmp, ↓eval_int, ↓eval_nil, ↓put_some, ↓vK_c, ↓op_assign, ↓op_iface, ↓td_d, ↓td_nl, ↓ret_2, ↓nc97, List.getD_cons_zero, List.getD_cons_succ, List.set_cons_zero, List.set_cons_succ, List.map_nil, Bool.and_self, Nat.reduceAdd, Nat.reduceSub, Nat.reduceMul, evK_go, reduceIte, Nat.reduceEqDiff, Nat.reduceLT, and_self]
  have e : domE n l f = 0 := by unfold domE; rw [if_pos hc, hf]; rfl
  rw [show domLast n l f = lastL n.toNat (ovL n.toNat (natL l) f.toNat) from if_pos e, e, lnD_nat ok.rng]
  have hcr := ok.cr
  have hff : 0 ≤ f ∧ f ≤ n - 1 := by simpa [inB] using hf
  obtain ⟨x, rfl⟩ := Int.eq_ofNat_of_zero_le hff.1
  clear ok hc hf e
  generalize n.toNat = m at *
  subst e0
  generalize natL l = L at *
  have hov : m ≤ 8 ∧ x < m ∧ L.length < 2 ^ 62 ∧ Good m L := ⟨h8, by omega, hcr.2.1, hcr.2.2⟩
  rw [Int.toNat_natCast]
  have hwl := ovL_len m L x
  have hwt := ovL_lt (n := m) (by omega) L x
  have hwm : ∀ i j, j ∈ pts ((ovL m L x).getD i default) → j < m := fun i j hj => ((ovL_pts (by omega) hcr.2.2 hov.2.1 i j).1 hj).1
  simp (implicitDefEqProofs := false) (dsimp := false) only [over_callD, hov, ↓nthK_H, ↓nthH_zero, ↓aw_seq, ↓aw_block, ↓aw_skip, ↓aw_loop, ↓aw_reg, ↓Qseq_n, ↓ops_nil, ↓ops_cons, ↓eval_tmp, ↓eval_int, ↓eval_func, ↓put_some, ↓put_none, ↓iK_i, ↓dK_d, ↓lenK_l, ↓ldK_p, ↓op_move, ↓op_load, ↓op_len, ↓op_call, ↓op_alloc, ↓op_store, ↓op_make, isD_d, ↓fnK_f, ↓call_H, ↓callK_H, ↓allT_nil, ↓allT_cons, ↓td_d, ↓addBox_mk, ↓addRow_mk, ↓setBox_mk, ↓st_bx, ↓st_rw, ↓cells_c, ↓vcells_l, ↓vcells_nl, ↓vcells_o, ↓one_i, ↓one_l, ↓vone_d, ↓vone_o, constV_i, constV_n, ↓st_p, ↓mk_, ↓vsz_int, ↓ty3, ↓zb3, ↓ty28, ↓sl28, ↓zb28, ↓ty84, ↓sl84, ↓zb84, List.getD_cons_zero, List.getD_cons_succ, List.set_cons_zero, List.set_cons_succ, List.cons_append, List.nil_append, List.append_nil, List.length_cons, List.length_nil, List.length_map, List.all_cons, List.all_nil, Bool.and_true, Bool.true_and, Bool.and_self, Bool.true_or, Nat.reduceAdd, Nat.reduceSub, Nat.reduceMul, Nat.zero_add, Int.toNat_natCast, evK_go, reduceIte, Nat.reduceEqDiff, Nat.reduceLT, and_self, true_and, and_true, Int.zero_add, Int.natCast_nonneg]
  (repeat refine OrH.l ?_)
  generalize ovL m L x = W at hwl hwt hwm ⊢
  refine ⟨⟨by omega, by decide⟩, ?_⟩
  refine loopW (fun k : Nat => { tm := slots 74 [(9, .p 0 0), (10, .p 1 0), (32, .d (.l (W.map U))), (33, .d (I .i64 (m : Int))), (34, .d (I .i64 k))], bx := [.d (.l (W.map U)), .o 0 0 m], rw := [some ⟨1, (lastB m W k).map (I .i64)⟩] })
    (fun k => k ≤ m) (fun k => m - k) 0 (by simp) ?_ ?_
  · refine Wkn.of [0, 1] [some 0] ?_
    have e : (lastB m W 0).map (I .i64) = List.replicate m (I .i64 0) := by unfold lastB; rw [part_zero, List.map_replicate]
    simp (implicitDefEqProofs := false) (dsimp := false) only [hwl, e, ↓vcells_l, ↓vcells_o, List.getD_cons_zero, List.getD_cons_succ, List.set_cons_zero, List.set_cons_succ, List.length_cons, List.length_nil, Bool.and_self, Nat.reduceAdd, Nat.reduceSub, Nat.reduceMul, Nat.zero_add, List.replicate, evK_go, reduceIte, Nat.reduceEqDiff, Nat.reduceLT, and_self, Int.zero_add, List.foldl_cons, List.foldl_nil, Int.cast_ofNat_Int, slots, wkL_nil, wkL_cons, wkB_nil, wkB_cons, wkR_nil, wkR_some, wkV_j, wkV_d, wkV_o, wkV_p, frz_d, oK_zs, pK_z, pK_s, reduceCtorEq]
  · intro k hk
    simp (implicitDefEqProofs := false) (dsimp := false) only [slots, ↓aw_cond, ↓aw_seq, ↓aw_reg, ↓Qseq_n, ↓ops_nil, ↓ops_cons, ↓eval_tmp, ↓put_some, ↓bK_b, ↓binE_i, ↓bi_lss, ↓op_bin, List.getD_cons_zero, List.getD_cons_succ, List.set_cons_zero, List.set_cons_succ, Nat.reduceAdd, Nat.reduceSub, Nat.reduceMul, List.replicate, evK_go, reduceIte, Nat.reduceEqDiff, Nat.reduceLT, List.foldl_cons, List.foldl_nil, Int.ofNat_lt]
    refine cdK_dec (fun h => ?_) (fun h => ?_)
    · have hkW : k < W.length := by omega
      have hlt := hwt _ (getD_mem hkW)
      have hk64 : k < 64 := by omega
      have hlB : (lastB m W k).length = m := by simp [lastB]
      have hdif := dif_lt (n := 2 ^ k) hlt
      simp (implicitDefEqProofs := false) (dsimp := false) only [h, hkW, hlt, hk64, without_call, each_call, ↓optK_some, ↓rwK_mk_, ↓atK_H, ↓atH_map, ↓nthK_H, ↓nthH_zero, ↓aw_seq, ↓aw_block, ↓aw_skip, ↓aw_rng, ↓aw_reg, ↓Qseq_n, ↓ops_nil, ↓ops_cons, ↓eval_tmp, ↓eval_int, ↓eval_func, ↓put_some, ↓put_none, ↓iK_i, ↓dK_d, ↓ldK_q, ↓ldK_p, ↓iaK_l, ↓iaK_o, ↓op_move, ↓op_assign, ↓op_load, ↓op_ia, ↓op_call, ↓op_alloc, ↓op_store, isD_d, ↓fnK_f, ↓call_H, ↓callK_H, ↓allT_nil, ↓allT_cons, ↓td_d, ↓addBox_mk, ↓setBox_mk, ↓setRow_mk, ↓st_bx, ↓row_sz, ↓row_xs, ↓cells_c, ↓vcells_c, ↓vcells_o, ↓one_i, ↓vone_d, constV_i, ↓st_p, ↓st_e, ↓hd_cons, ↓ty3, ↓zb3, ↓ty28, ↓sl28, ↓sl84, ↓ty87, List.getD_cons_zero, List.getD_cons_succ, List.set_cons_zero, List.set_cons_succ, List.cons_append, List.nil_append, List.append_nil, List.length_cons, List.length_nil, List.all_cons, List.all_nil, Bool.true_and, Bool.and_self, Bool.true_or, Nat.reduceAdd, Nat.reduceSub, Nat.reduceMul, Nat.zero_add, Int.toNat_natCast, evK_go, reduceIte, decide_true, Nat.reduceEqDiff, Nat.reduceLT, and_self, true_and, Int.zero_add, Int.ofNat_lt, Int.natCast_nonneg]
      (repeat refine OrH.l ?_)
      refine rangeW (slots 74 [(9, .p 0 0), (10, .p 1 0), (11, .p 2 0), (32, .d (.l (W.map U))), (33, .d (I .i64 (m : Int))), (34, .d (I .i64 (k : Int))), (45, .d (.f (.func 99) [.q [U (dif (W.getD k default) (2 ^ k))]]))])
        (fun _ => [.d (.l (W.map U)), .o 0 0 m, .d (I .i64 (k : Int))]) (fun P : List Nat => [some ⟨1, ((lastB m W k).set k (P.foldl (bestK W) (-1))).map (I .i64)⟩]) (fun ys P => ys = P.map Int.ofNat) []
        (by simp [slots]) (each_iter _ hdif) ?_ rfl ?_ ?_ ?_
      · simp (implicitDefEqProofs := false) (dsimp := false) only [slots, ↓eval_tmp, List.getD_cons_zero, List.getD_cons_succ, List.set_cons_zero, List.set_cons_succ, Nat.reduceAdd, Nat.reduceSub, Nat.reduceMul, List.replicate, evK_go, reduceIte, Nat.reduceEqDiff, Nat.reduceLT, List.foldl_cons, List.foldl_nil]
      · refine Wkn.of [0, 1, 2] [some 0] ?_
        simp (implicitDefEqProofs := false) (dsimp := false) only [List.foldl_nil, List.map_set, ↓vcells_c, ↓vcells_l, ↓vcells_o, List.getD_cons_zero, List.getD_cons_succ, List.set_cons_zero, List.set_cons_succ, List.length_cons, List.length_nil, Bool.and_self, Nat.reduceAdd, Nat.reduceSub, Nat.reduceMul, Nat.zero_add, List.replicate, evK_go, reduceIte, Nat.reduceEqDiff, Nat.reduceLT, and_self, Int.zero_add, List.foldl_cons, List.foldl_nil, slots, wkL_nil, wkL_cons, wkB_nil, wkB_cons, wkR_nil, wkR_some, wkV_j, wkV_d, wkV_o, wkV_p, frz_d, oK_zs, pK_z, pK_s, reduceCtorEq]
      · rintro ys y P hpx rfl
        obtain ⟨P', c, hP, rfl, hcc⟩ := prefix_map hpx
        obtain rfl : P = P' := ofNat_inj hP
        have hall : ∀ j ∈ pts (dif (W.getD k default) (2 ^ k)), j < m := fun j hj => by
          have h1 := (pts_mem _ _).1 hj
          rw [dif_bit, Bool.and_eq_true] at h1
          exact hwm k j ((pts_mem _ _).2 ⟨h1.1, h1.2.1⟩)
        have hcm : c < m := hall c (hcc.subset (by simp : c ∈ P ++ [c]))
        have hcW : c < W.length := by omega
        have hltc := hwt _ (getD_mem hcW)
        have hsl : ∀ v, ((lastB m W k).set k v).length = m := fun v => by simp [lastB]
        have hsg : ∀ v, ((lastB m W k).set k v).getD k default = v := fun v => by rw [set_getD, if_pos ⟨rfl, by rw [hlB]; exact h⟩]
        have er : ∀ v w, (List.map (I .i64) ((lastB m W k).set k v)).set k (I .i64 w) = List.map (I .i64) ((lastB m W k).set k w) := fun v w => by rw [← List.map_set, List.set_set]
        have hfold : (P ++ [c]).foldl (bestK W) (-1) = bestK W (P.foldl (bestK W) (-1)) c := by rw [List.foldl_append]; rfl
        have hrg := best_range (all := W) (P := P) (m := m) fun j hj => hall j (hcc.subset (by simp [hj]))
        simp (implicitDefEqProofs := false) (dsimp := false) only [slots, h, hsl, hsg, ↓gdK_f, ↓gval_mk, ↓gvL_zero, ↓gvL_succ, ↓optK_some, ↓rwK_mk_, ↓atK_H, ↓atH_map, ↓nthK_H, ↓nthH_zero, ↓aw_seq, ↓aw_block, ↓aw_reg, ↓aw_draw, ↓ops_nil, ↓ops_cons, ↓eval_tmp, ↓eval_int, ↓put_some, ↓iK_i, ↓ev_move, ↓ev_load, ↓ev_bin, ↓ev_ia, ↓binE_i, ↓bi_lss, ↓ldK_p, ↓ldK_e, ↓iaK_o, ↓op_assign, ↓draw_H, ↓h_cons, ↓ldH_n, ↓ldH_g, ↓q_move, ↓q_load, ↓q_bin, ↓q_ia, ↓il_move, ↓il_load, ↓il_bin, ↓il_ia, ↓st_tm, ↓row_sz, ↓row_xs, ↓cells_c, ↓vcells_c, ↓vcells_o, ↓Qn_n, ↓ty3, ↓ty28, ↓sl28, List.getD_cons_zero, List.getD_cons_succ, List.set_cons_zero, List.set_cons_succ, Bool.true_and, Bool.and_self, Nat.reduceAdd, Nat.reduceSub, Nat.reduceMul, Nat.zero_add, Int.toNat_natCast, List.replicate, evK_go, reduceIte, Nat.reduceEqDiff, Nat.reduceLT, and_self, true_and, Int.zero_add, List.foldl_cons, List.foldl_nil, Int.ofNat_lt, Int.natCast_nonneg]
        refine OrH.l ⟨DrawH.of follows_mixed (by kernel_rfl), ?_⟩
        rcases hrg with e | ⟨z, e, hz⟩
        · have e2 : bestK W (-1) c = (c : Int) := if_pos (.inl (by decide))
          rw [e] at hfold ⊢
          rw [e2] at hfold
          have hd : decide ((-1 : Int) < 0) = true := rfl
          simp (implicitDefEqProofs := false) (dsimp := false) only [hd, h, er, ↓cdK_true, ↓gdK_f, ↓gval_mk, ↓gvL_zero, ↓gvL_succ, ↓optK_some, ↓rwK_mk_, ↓nthK_H, ↓nthH_zero, ↓aw_cond, ↓aw_reg, ↓Qseq_n, ↓Qblk_n, ↓ops_nil, ↓ops_cons, ↓eval_tmp, ↓eval_bool, ↓put_some, ↓put_none, ↓bK_b, ↓iK_i, ↓dK_d, ↓ev_pick, ↓ldK_p, ↓iaK_o, ↓op_move, ↓op_load, ↓op_ia, ↓op_store, ↓h_nil, ↓h_cons, ↓ldH_n, ↓ldH_g, ↓q_pick, ↓il_move, ↓il_pick, ↓il_load, ↓il_bin, ↓il_ia, ↓il_call, ↓setRow_mk, ↓st_tm, ↓row_sz, ↓row_xs, ↓cells_c, ↓vcells_c, ↓vcells_o, ↓one_i, ↓st_e, ↓Qrd_n, ↓back_mk, ↓ty3, ↓ty28, ↓sl28, List.getD_cons_zero, List.getD_cons_succ, List.set_cons_zero, List.set_cons_succ, List.length_cons, List.length_nil, List.all_cons, List.all_nil, Bool.true_and, Bool.and_self, Nat.reduceAdd, Nat.reduceSub, Nat.reduceMul, Nat.zero_add, Int.toNat_natCast, evK_go, reduceIte, Nat.reduceEqDiff, Nat.reduceLT, and_self, true_and, Int.zero_add, Int.ofNat_lt, Int.natCast_nonneg]
          refine ⟨P ++ [c], by simp, ?_⟩
          refine Wkn.of [0, 1, 2] [some 0] ?_
          simp (implicitDefEqProofs := false) (dsimp := false) only [hfold, ↓vcells_c, ↓vcells_l, ↓vcells_o, List.getD_cons_zero, List.getD_cons_succ, List.length_cons, List.length_nil, Bool.and_self, Nat.reduceAdd, Nat.reduceSub, Nat.reduceMul, Nat.zero_add, evK_go, reduceIte, Nat.reduceEqDiff, Nat.reduceLT, and_self, Int.zero_add, slots, wkL_nil, wkL_cons, wkB_nil, wkB_cons, wkR_nil, wkR_some, wkV_j, wkV_d, wkV_o, wkV_p, frz_d, oK_zs, pK_z, pK_s, reduceCtorEq]
        · have hzW : z < W.length := by omega
          have hltz := hwt _ (getD_mem hzW)
          rw [e] at hfold ⊢
          have hd : decide ((z : Int) < 0) = false := by rw [decide_eq_false_iff_not]; omega
          simp (implicitDefEqProofs := false) (dsimp := false) only [hd, h, hcW, hzW, hsl, hsg, hltc, hltz, len_callQ, ↓cdK_false, ↓gdK_f, ↓gval_mk, ↓gvL_zero, ↓gvL_succ, ↓optK_some, ↓rwK_mk_, ↓atK_H, ↓atH_map, ↓nthK_H, ↓nthH_zero, ↓aw_cond, ↓Qseq_n, ↓eval_tmp, ↓eval_func, ↓put_some, ↓bK_b, ↓iK_i, ↓ev_move, ↓ev_pick, ↓ev_load, ↓ev_bin, ↓ev_ia, ↓binE_i, ↓bi_gtr, ↓ldK_q, ↓ldK_p, ↓ldK_e, ↓iaK_l, ↓iaK_o, isD_d, ↓fnK_f, ↓callKQ_H, ↓allT_nil, ↓allT_cons, ↓td_d, ↓h_nil, ↓h_cons, ↓ldH_n, ↓ldH_g, ↓q_call, ↓q_move, ↓q_pick, ↓q_load, ↓q_bin, ↓q_ia, ↓il_move, ↓il_pick, ↓il_load, ↓il_bin, ↓il_ia, ↓il_call, ↓st_tm, ↓row_sz, ↓row_xs, ↓cells_c, ↓vcells_c, ↓vcells_l, ↓vcells_o, ↓hd_cons, ↓ty3, ↓ty28, ↓sl28, ↓ty84, ↓sl84, ↓ty87, List.getD_cons_zero, List.getD_cons_succ, List.set_cons_zero, List.set_cons_succ, List.append_nil, List.length_cons, List.length_nil, List.all_cons, List.all_nil, Bool.true_and, Bool.and_self, Bool.true_or, Nat.reduceAdd, Nat.reduceSub, Nat.reduceMul, Nat.zero_add, Int.toNat_natCast, evK_go, reduceIte, Nat.reduceEqDiff, Nat.reduceLT, and_self, true_and, Int.zero_add, Int.ofNat_lt, Int.natCast_nonneg]
          (repeat refine OrH.l ?_)
          refine cdK_dec (fun h1 => ?_) (fun h1 => ?_)
          · have e2 : bestK W (z : Int) c = (c : Int) := if_pos (.inr (by rw [Int.toNat_natCast]; omega))
            rw [e2] at hfold
            simp (implicitDefEqProofs := false) (dsimp := false) only [h1, h, er, ↓optK_some, ↓rwK_mk_, ↓nthK_H, ↓nthH_zero, ↓aw_reg, ↓Qblk_n, ↓ops_nil, ↓ops_cons, ↓eval_tmp, ↓put_some, ↓put_none, ↓iK_i, ↓dK_d, ↓ldK_p, ↓iaK_o, ↓op_move, ↓op_load, ↓op_ia, ↓op_store, ↓setRow_mk, ↓row_sz, ↓row_xs, ↓cells_c, ↓vcells_c, ↓vcells_o, ↓one_i, ↓st_e, ↓Qrd_n, ↓back_mk, ↓ty3, ↓ty28, ↓sl28, List.getD_cons_zero, List.getD_cons_succ, List.set_cons_zero, List.set_cons_succ, List.length_cons, List.length_nil, List.all_cons, List.all_nil, Bool.true_and, Bool.and_self, Nat.reduceAdd, Nat.reduceSub, Nat.reduceMul, Nat.zero_add, Int.toNat_natCast, evK_go, reduceIte, decide_true, Nat.reduceEqDiff, Nat.reduceLT, and_self, true_and, Int.zero_add, Int.ofNat_lt, Int.natCast_nonneg]
            refine ⟨P ++ [c], by simp, ?_⟩
            refine Wkn.of [0, 1, 2] [some 0] ?_
            simp (implicitDefEqProofs := false) (dsimp := false) only [hfold, ↓vcells_c, ↓vcells_l, ↓vcells_o, List.getD_cons_zero, List.getD_cons_succ, List.length_cons, List.length_nil, Bool.and_self, Nat.reduceAdd, Nat.reduceSub, Nat.reduceMul, Nat.zero_add, evK_go, reduceIte, Nat.reduceEqDiff, Nat.reduceLT, and_self, Int.zero_add, slots, wkL_nil, wkL_cons, wkB_nil, wkB_cons, wkR_nil, wkR_some, wkV_j, wkV_d, wkV_o, wkV_p, frz_d, oK_zs, pK_z, pK_s, reduceCtorEq]
          · have e2 : bestK W (z : Int) c = (z : Int) := if_neg (by rw [Int.toNat_natCast]; omega)
            rw [e2] at hfold
            simp (implicitDefEqProofs := false) (dsimp := false) only [↓aw_skip, ↓Qblk_n, ↓Qrd_n, ↓back_mk, Nat.reduceAdd, Nat.reduceSub, Nat.reduceMul, evK_go, reduceIte, Nat.reduceEqDiff, Nat.reduceLT]
            refine ⟨P ++ [c], by simp, ?_⟩
            refine Wkn.of [0, 1, 2] [some 0] ?_
            simp (implicitDefEqProofs := false) (dsimp := false) only [hfold, ↓vcells_c, ↓vcells_l, ↓vcells_o, List.getD_cons_zero, List.getD_cons_succ, List.length_cons, List.length_nil, Bool.and_self, Nat.reduceAdd, Nat.reduceSub, Nat.reduceMul, Nat.zero_add, evK_go, reduceIte, Nat.reduceEqDiff, Nat.reduceLT, and_self, Int.zero_add, slots, wkL_nil, wkL_cons, wkB_nil, wkB_cons, wkR_nil, wkR_some, wkV_j, wkV_d, wkV_o, wkV_p, frz_d, oK_zs, pK_z, pK_s, reduceCtorEq]
      · rintro P hP
        obtain rfl : pts (dif (W.getD k default) (2 ^ k)) = P := ofNat_inj hP
        simp (implicitDefEqProofs := false) (dsimp := false) only [slots, ↓aw_reg, ↓Qseq_n, ↓Qblk_n, ↓ops_nil, ↓ops_cons, ↓eval_tmp, ↓eval_int, ↓put_some, ↓binE_i, ↓bi_add, ↓in_i64, ↓op_move, ↓op_bin, List.getD_cons_zero, List.getD_cons_succ, List.set_cons_zero, List.set_cons_succ, Nat.reduceAdd, Nat.reduceSub, Nat.reduceMul, List.replicate, evK_go, reduceIte, Nat.reduceEqDiff, Nat.reduceLT, List.foldl_cons, List.foldl_nil]
        refine ⟨by omega, k + 1, by omega, by omega, ?_⟩
        refine Wkn.of [0, 1] [some 0] ?_
        have e : lastB m W (k + 1) = (lastB m W k).set k ((pts (dif (W.getD k default) (2 ^ k))).foldl (bestK W) (-1)) := part_set (lastI W) 0 h
        simp (implicitDefEqProofs := false) (dsimp := false) only [e, ↓vcells_l, ↓vcells_o, List.getD_cons_zero, List.getD_cons_succ, List.length_cons, List.length_nil, Bool.and_self, Nat.reduceAdd, Nat.reduceSub, Nat.reduceMul, Nat.zero_add, evK_go, reduceIte, Nat.reduceEqDiff, Nat.reduceLT, and_self, Int.zero_add, Int.cast_ofNat_Int, Int.natCast_add, slots, wkL_nil, wkL_cons, wkB_nil, wkB_cons, wkR_nil, wkR_some, wkV_j, wkV_d, wkV_o, wkV_p, frz_d, oK_zs, pK_z, pK_s, reduceCtorEq]
    · obtain rfl : k = m := by omega
      simp (implicitDefEqProofs := false) (dsimp := false) only [eval_nilI, ↓optK_some, ↓rwK_mk_, ↓nthK_H, ↓nthH_zero, ↓aw_seq, ↓aw_exit, ↓aw_ret, ↓aw_reg, ↓Qseq_n, ↓Qseq_x, ↓Qblk_x, ↓Qret_r, ↓ops_nil, ↓ops_cons, ↓eval_tmp, ↓put_some, ↓ldK_p, ↓op_assign, ↓op_load, ↓td_d, ↓td_o, ↓ret_2, ↓row_xs, ↓vcells_o, ↓ty28, List.getD_cons_zero, List.getD_cons_succ, List.set_cons_zero, List.set_cons_succ, Nat.reduceAdd, Nat.reduceSub, Nat.reduceMul, evK_go, reduceIte, decide_false, Nat.reduceEqDiff, Nat.reduceLT, Nat.lt_irrefl, List.drop_zero]
      have e1 : List.take k (List.map (I .i64) (lastB k W k)) = List.map (I .i64) (lastL k W) := by
        rw [List.take_of_length_le (by simp [lastB])]
        unfold lastB lastL
        rw [part_all]
      rw [e1, erD_0]
theorem dlast_call (n : Int) (l : List (Int × Int)) (f : Int) (pure : Bool) (σ : St) (dst : Option Tmp) (K : St → Prop) : CallH Try.prog 54 [I .i64 n, .l (l.map lnD), I .i64 f] pure σ dst (.mk : Hid K) = OrH ((l.length < 2 ^ 62) ∧ (pure || D.flat (.t [.l ((domLast n l f).map (I .i64)), erD (domE n l f)])) = true ∧ evK (σ.put dst (.d (.t [.l ((domLast n l f).map (I .i64)), erD (domE n l f)]))) (.mk : Hid K)) (.mk : Hid (CallH Try.prog 54 [I .i64 n, .l (l.map lnD), I .i64 f] pure σ dst (.mk : Hid K))) := CallH.eq (dlast_spec n l f) pure σ dst K
theorem dlast_callQ (n : Int) (l : List (Int × Int)) (f : Int) (pure : Bool) (C : V → Prop) : CallQ Try.prog 54 [I .i64 n, .l (l.map lnD), I .i64 f] pure (.mk : Hid C) = OrH ((l.length < 2 ^ 62) ∧ (pure || D.flat (.t [.l ((domLast n l f).map (I .i64)), erD (domE n l f)])) = true ∧ evK (V.d (.t [.l ((domLast n l f).map (I .i64)), erD (domE n l f)])) (.mk : Hid C)) (.mk : Hid (CallQ Try.prog 54 [I .i64 n, .l (l.map lnD), I .i64 f] pure (.mk : Hid C))) := CallQ.eq (dlast_spec n l f) pure C
end Go.Proofs

namespace Go.Proofs
open Go.Aw
set_option linter.unusedSimpArgs false
set_option maxRecDepth 10000
theorem sym_take {n : Nat} {L : List (Nat × Nat)} {k : Nat} (h : k < L.length) : outS n (L ++ (L.take (k + 1)).map flip) = outF (outS n (L ++ (L.take k).map flip)) (flip (L.getD k default)) := by
  rw [take_succ_getD h, List.map_append, ← List.append_assoc]
  exact outS_snoc _ _ _
theorem beside_spec (n : Nat) (L : List (Nat × Nat)) (hpre : n ≤ 64 ∧ L.length < 2 ^ 62 ∧ Good n L) : FnR Try.prog 90 [I .i64 (n : Int), .l (L.map lnN)] 1 ((outS n (symL L)).map U) := by
  obtain ⟨hn, hl, hg⟩ := hpre
  have hout : n ≤ 64 ∧ L.length < 2 ^ 62 ∧ ∀ p ∈ L, p.1 < n ∧ p.2 < 64 := ⟨hn, hl, fun p hp => by have := hg p hp; omega⟩
  refine FnR.go Try.func90 rfl rfl Try.results90 Try.ntmps90 ?_
  simp (implicitDefEqProofs := false) (dsimp := false) only [↓aw_seq, ↓aw_reg, ↓Qseq_n, ↓ops_nil, ↓ops_cons, ↓eval_tmp, ↓eval_nil, ↓eval_func, ↓put_some, ↓op_move, ↓op_assign, ↓op_call, isD_d, ↓fnK_f, ↓call_H, ↓callK_H, ↓allT_nil, ↓allT_cons, ↓td_d, List.getD_cons_zero, List.getD_cons_succ, List.set_cons_zero, List.set_cons_succ, List.cons_append, List.nil_append, List.append_nil, List.map_cons, List.map_nil, List.length_cons, List.length_nil, List.all_cons, List.all_nil, Bool.and_self, Nat.reduceAdd, Nat.reduceSub, Nat.reduceMul, Nat.zero_add, List.replicate, evK_go, reduceIte, Nat.reduceEqDiff, Nat.reduceLT, and_self, Int.zero_add]
  simp (implicitDefEqProofs := false) (dsimp := false) only [out_call, rflat_U, ↓aw_seq, ↓aw_block, ↓aw_loop, ↓aw_reg, ↓Qseq_n, ↓ops_nil, ↓ops_cons, ↓eval_tmp, ↓eval_int, ↓put_some, ↓lenK_l, ↓op_move, ↓op_assign, ↓op_len, ↓addRow_mk, ↓st_rw, ↓sl22, List.getD_cons_zero, List.getD_cons_succ, List.set_cons_zero, List.set_cons_succ, List.nil_append, List.length_nil, List.length_map, Bool.true_and, Bool.or_true, Nat.reduceAdd, Nat.reduceSub, Nat.reduceMul, evK_go, reduceIte, Nat.reduceEqDiff, Nat.reduceLT, true_and]
  refine OrH.l (OrH.l ⟨hout, ?_⟩)
  have h0 := outS_len n L
  simp (implicitDefEqProofs := false) (dsimp := false) only [h0]
  refine loopW (fun k : Nat => { tm := slots 31 [(5, .o 0 0 n), (11, .d (.l (L.map lnN))), (12, .d (I .i64 L.length)), (13, .d (I .i64 k))], bx := [], rw := [some ⟨1, (outS n (L ++ (L.take k).map flip)).map U⟩] })
    (fun k => k ≤ L.length) (fun k => L.length - k) 0 (by simp) ?_ ?_
  · refine Wkn.of [] [some 0] ?_
    simp (implicitDefEqProofs := false) (dsimp := false) only [List.append_nil, List.getD_cons_zero, List.set_cons_zero, List.set_cons_succ, List.append_nil, List.map_nil, Bool.and_self, Nat.reduceAdd, Nat.reduceSub, Nat.reduceMul, List.replicate, evK_go, reduceIte, Nat.reduceEqDiff, Nat.reduceLT, and_self, List.take_zero, List.foldl_cons, List.foldl_nil, Int.cast_ofNat_Int, slots, wkL_nil, wkL_cons, wkB_nil, wkR_nil, wkR_some, wkV_j, wkV_d, wkV_o, frz_d, oK_zs, reduceCtorEq]
  · intro k hk
    simp (implicitDefEqProofs := false) (dsimp := false) only [slots, ↓aw_cond, ↓aw_seq, ↓aw_reg, ↓Qseq_n, ↓ops_nil, ↓ops_cons, ↓eval_tmp, ↓put_some, ↓bK_b, ↓binE_i, ↓bi_lss, ↓op_bin, List.getD_cons_zero, List.getD_cons_succ, List.set_cons_zero, List.set_cons_succ, Nat.reduceAdd, Nat.reduceSub, Nat.reduceMul, List.replicate, evK_go, reduceIte, Nat.reduceEqDiff, Nat.reduceLT, List.foldl_cons, List.foldl_nil, Int.ofNat_lt]
    refine cdK_dec (fun h => ?_) (fun h => ?_)
    · have hp := hg _ (getD_mem h)
      have hS := outS_len n (L ++ (L.take k).map flip)
      have hlt : ∀ x ∈ outS n (L ++ (L.take k).map flip), x < 2 ^ 64 := outS_lt' hn fun p hp => by
        rcases List.mem_append.1 hp with hp | hp
        · exact hg p hp
        · obtain ⟨q, hq, rfl⟩ := List.mem_map.1 hp
          have := hg q (List.mem_of_mem_take hq)
          exact ⟨this.2, this.1⟩
      have e := sym_take (n := n) h
      generalize outS n (L ++ (L.take k).map flip) = S at hS hlt e ⊢
      generalize hab : L.getD k default = p at hp e
      obtain ⟨a, b⟩ := p
      simp only at hp
      have hbS : b < S.length := by omega
      have hltb := hlt _ (getD_mem hbS)
      have ha64 : a < 64 := by omega
      simp (implicitDefEqProofs := false) (dsimp := false) only [h, lnN, hab, hbS, with_callQ, hltb, ha64, ↓optK_some, ↓rwK_mk_, ↓atK_H, ↓atH_map, ↓nthK_H, ↓nthH_zero, ↓nthH_succ, ↓aw_seq, ↓aw_block, ↓aw_skip, ↓aw_reg, ↓aw_draw, ↓Qseq_n, ↓Qblk_n, ↓ops_nil, ↓ops_cons, ↓eval_tmp, ↓eval_int, ↓eval_func, ↓put_some, ↓put_none, ↓iK_i, ↓dK_d, ↓ev_move, ↓ev_load, ↓ev_fa, ↓ev_ia, ↓binE_i, ↓bi_add, ↓in_i64, ↓ldK_q, ↓ldK_p, ↓ldK_e, ↓faK_p, ↓iaK_l, ↓iaK_o, ↓op_move, ↓op_load, ↓op_bin, ↓op_ia, ↓op_alloc, ↓op_store, isD_d, ↓fnK_f, ↓callKQ_H, ↓allT_nil, ↓allT_cons, ↓td_d, ↓draw_H, ↓h_cons, ↓ldH_t, ↓ldH_n, ↓q_call, ↓q_move, ↓q_load, ↓q_fa, ↓q_ia, ↓il_move, ↓il_load, ↓il_fa, ↓il_ia, ↓il_call, ↓il_store, ↓addBox_mk, ↓setBox_mk, ↓setRow_mk, ↓st_bx, ↓row_sz, ↓row_xs, ↓cells_c, ↓cells_s, ↓vcells_s, ↓one_i, ↓vone_d, constV_a, ↓st_p, ↓st_e, ↓ty3, ↓sl22, ↓ty35, ↓zb35, ↓fd35_0, ↓fd35_1, ↓sl84, ↓ty87, List.getD_cons_zero, List.getD_cons_succ, List.set_cons_zero, List.set_cons_succ, List.nil_append, List.append_nil, List.map_cons, List.map_nil, List.length_cons, List.length_nil, List.all_cons, List.all_nil, Bool.true_and, Bool.and_self, Bool.true_or, Nat.reduceAdd, Nat.reduceSub, Nat.reduceMul, Nat.zero_add, Nat.add_zero, Int.toNat_natCast, evK_go, reduceIte, decide_true, Nat.reduceEqDiff, Nat.reduceLT, and_self, true_and, Int.zero_add, List.take_succ_cons, List.take_nil, Int.ofNat_lt, Int.natCast_nonneg]
      refine ⟨by decide, OrH.l ⟨DrawH.of follows_mixed (by kernel_rfl), by omega, OrH.l (OrH.l ⟨by omega, by omega, k + 1, by omega, by omega, ?_⟩)⟩⟩
      refine Wkn.of [] [some 0] ?_
      simp (implicitDefEqProofs := false) (dsimp := false) only [e, outF, flip, List.map_set, List.getD_cons_zero, List.set_cons_zero, List.set_cons_succ, Bool.and_self, Nat.reduceAdd, Nat.reduceSub, Nat.reduceMul, List.replicate, evK_go, reduceIte, Nat.reduceEqDiff, Nat.reduceLT, and_self, List.foldl_cons, List.foldl_nil, Int.cast_ofNat_Int, Int.natCast_add, slots, wkL_nil, wkL_cons, wkB_nil, wkR_nil, wkR_some, wkV_j, wkV_d, wkV_o, frz_d, oK_zs, reduceCtorEq]
    · obtain rfl : k = L.length := by omega
      rw [List.take_length]
      simp (implicitDefEqProofs := false) (dsimp := false) only [↓optK_some, ↓rwK_mk_, ↓aw_seq, ↓aw_exit, ↓aw_ret, ↓aw_reg, ↓Qseq_n, ↓Qseq_x, ↓Qblk_x, ↓ops_nil, ↓ops_cons, ↓eval_tmp, ↓put_some, ↓op_move, ↓op_assign, ↓row_sz, ↓row_xs, ↓Qrow_r, ↓rowK_o, List.getD_cons_zero, List.getD_cons_succ, List.set_cons_zero, List.set_cons_succ, Bool.true_and, Nat.reduceAdd, Nat.reduceSub, Nat.reduceMul, evK_go, reduceIte, decide_false, Nat.reduceEqDiff, Nat.reduceLT, true_and, Nat.lt_irrefl]
      have h4 := outS_len n (L ++ L.map flip)
      exact List.take_of_length_le (by simp [h4])
theorem beside_call (n : Nat) (L : List (Nat × Nat)) (pure : Bool) (σ : St) (dst : Option Tmp) (K : St → Prop) : CallH Try.prog 90 [I .i64 (n : Int), .l (L.map lnN)] pure σ dst (.mk : Hid K) = OrH ((n ≤ 64 ∧ L.length < 2 ^ 62 ∧ Good n L) ∧ (pure || Res.flat (.row 1 ((outS n (symL L)).map U))) = true ∧ evK ((σ.addRow ⟨1, (outS n (symL L)).map U⟩).put dst (.o σ.rw.length 0 (List.length ((outS n (symL L)).map U)))) (.mk : Hid K)) (.mk : Hid (CallH Try.prog 90 [I .i64 (n : Int), .l (L.map lnN)] pure σ dst (.mk : Hid K))) := CallH.eqR (fun h => beside_spec n L h) pure σ dst K
theorem beside_callD (n : Nat) (L : List (Nat × Nat)) (pure : Bool) (σ : St) (dst : Option Tmp) (K : St → Prop) : CallH Try.prog 90 [I .i64 (n : Int), .l (L.map lnN)] pure σ dst (.mk : Hid K) = OrH ((n ≤ 64 ∧ L.length < 2 ^ 62 ∧ Good n L) ∧ (pure || D.flat (.l ((outS n (symL L)).map U))) = true ∧ evK (σ.put dst (.d (.l ((outS n (symL L)).map U)))) (.mk : Hid K)) (.mk : Hid (CallH Try.prog 90 [I .i64 (n : Int), .l (L.map lnN)] pure σ dst (.mk : Hid K))) := CallH.eq (fun h => ((fun h => beside_spec n L h) h).data) pure σ dst K
theorem beside_callDQ (n : Nat) (L : List (Nat × Nat)) (pure : Bool) (C : V → Prop) : CallQ Try.prog 90 [I .i64 (n : Int), .l (L.map lnN)] pure (.mk : Hid C) = OrH ((n ≤ 64 ∧ L.length < 2 ^ 62 ∧ Good n L) ∧ (pure || D.flat (.l ((outS n (symL L)).map U))) = true ∧ evK (V.d (.l ((outS n (symL L)).map U))) (.mk : Hid C)) (.mk : Hid (CallQ Try.prog 90 [I .i64 (n : Int), .l (L.map lnN)] pure (.mk : Hid C))) := CallQ.eq (fun h => ((fun h => beside_spec n L h) h).data) pure C
theorem cut1_spec (j : Nat) (next : List Nat) (s w : Nat) (hpre : (j < 64 ∧ pts s ≠ [] ∧ low s < next.length) ∧ next.length ≤ 64 ∧ w < 2 ^ next.length ∧ ∀ x ∈ next, x < 2 ^ 64) : FnD Try.prog 92 [I .i64 (j : Int), .q [.l ((ptsI s).map (I .i64))], .q [.l (next.map U)], .q [U w]] (Bo (!(reach next w (low s)).testBit j)) := by
  obtain ⟨⟨h1, h2, h3⟩, h4, h5, h6⟩ := hpre
  have hre : low s < next.length ∧ next.length ≤ 64 ∧ w < 2 ^ next.length ∧ ∀ x ∈ next, x < 2 ^ 64 := ⟨h3, h4, h5, h6⟩
  have hpos : 0 < (ptsI s).length := by rw [ptsI, List.length_map]; exact List.length_pos_iff.2 h2
  have hg : (ptsI s).getD 0 default = (low s : Int) := by
    unfold low ptsI
    cases hp : pts s with
    | nil => exact absurd hp h2
    | cons x t => rfl
  have hrl : reach next w (low s) < 2 ^ 64 := reach_lt h6 (by omega)
  have hj : j ≤ 64 := by omega
  refine FnD.go Try.func92 rfl rfl Try.results92 Try.ntmps92 ?_
  simp (implicitDefEqProofs := false) (dsimp := false) only [↓atK_H, ↓atH_map, ↓aw_seq, ↓aw_reg, ↓aw_draw, ↓Qseq_n, ↓ops_nil, ↓ops_cons, ↓eval_tmp, ↓eval_int, ↓eval_bool, ↓eval_func, ↓put_some, ↓iK_i, ↓ev_load, ↓ev_ia, ↓ldK_q, ↓iaK_l, ↓op_assign, isD_d, ↓fnK_f, ↓callKQ_H, ↓allT_nil, ↓allT_cons, ↓td_d, ↓draw_H, ↓h_cons, ↓ldH_n, ↓q_call, ↓q_load, ↓q_ia, ↓il_load, ↓il_ia, ↓il_call, ↓cells_c, ↓hd_cons, ↓ty3, ↓ty28, ↓sl28, ↓ty84, ↓ty87, List.getD_cons_zero, List.getD_cons_succ, List.set_cons_zero, List.set_cons_succ, List.cons_append, List.nil_append, List.append_nil, List.map_cons, List.map_nil, List.length_cons, List.length_nil, List.all_cons, List.all_nil, Bool.true_and, Bool.and_self, Nat.reduceAdd, Nat.reduceSub, Nat.reduceMul, Nat.zero_add, Int.toNat_zero, List.replicate, evK_go, reduceIte, Nat.reduceEqDiff, Nat.reduceLT, and_self, true_and, Int.zero_add]
  refine OrH.l ⟨DrawH.of follows_mixed (by kernel_rfl), ?_⟩
  simp (implicitDefEqProofs := false) (dsimp := false) only [hpos, hg, reach_callQ, hasS_callQ, hre, hrl, hj, ↓aw_ret, ↓Qseq_n, ↓Qret_r, ↓eval_tmp, ↓eval_func, ↓put_some, ↓bK_b, ↓ev_move, ↓ev_assign, ↓ev_not, ↓orH_T, isD_d, ↓fnK_f, ↓callKQ_H, ↓allT_nil, ↓allT_cons, ↓td_d, ↓ret_1, ↓h_nil, ↓h_cons, ↓ldH_n, ↓q_call, ↓q_move, ↓q_assign, ↓q_un, ↓il_move, ↓il_assign, ↓il_un, ↓il_call, List.getD_cons_zero, List.getD_cons_succ, List.set_cons_zero, List.set_cons_succ, List.append_nil, List.all_cons, List.all_nil, Bool.and_true, Bool.true_and, Bool.and_self, Bool.true_or, Nat.reduceAdd, Nat.reduceSub, Nat.reduceMul, evK_go, reduceIte, Nat.reduceEqDiff, Nat.reduceLT, and_self, true_and, and_true]
  exact ⟨by decide, OrH.l (OrH.l h6)⟩
theorem cut1_call (j : Nat) (next : List Nat) (s w : Nat) (pure : Bool) (σ : St) (dst : Option Tmp) (K : St → Prop) : CallH Try.prog 92 [I .i64 (j : Int), .q [.l ((ptsI s).map (I .i64))], .q [.l (next.map U)], .q [U w]] pure σ dst (.mk : Hid K) = OrH (((j < 64 ∧ pts s ≠ [] ∧ low s < next.length) ∧ next.length ≤ 64 ∧ w < 2 ^ next.length ∧ ∀ x ∈ next, x < 2 ^ 64) ∧ (pure || D.flat (Bo (!(reach next w (low s)).testBit j))) = true ∧ evK (σ.put dst (.d (Bo (!(reach next w (low s)).testBit j)))) (.mk : Hid K)) (.mk : Hid (CallH Try.prog 92 [I .i64 (j : Int), .q [.l ((ptsI s).map (I .i64))], .q [.l (next.map U)], .q [U w]] pure σ dst (.mk : Hid K))) := CallH.eq (cut1_spec j next s w) pure σ dst K
theorem cut1_callQ (j : Nat) (next : List Nat) (s w : Nat) (pure : Bool) (C : V → Prop) : CallQ Try.prog 92 [I .i64 (j : Int), .q [.l ((ptsI s).map (I .i64))], .q [.l (next.map U)], .q [U w]] pure (.mk : Hid C) = OrH (((j < 64 ∧ pts s ≠ [] ∧ low s < next.length) ∧ next.length ≤ 64 ∧ w < 2 ^ next.length ∧ ∀ x ∈ next, x < 2 ^ 64) ∧ (pure || D.flat (Bo (!(reach next w (low s)).testBit j))) = true ∧ evK (V.d (Bo (!(reach next w (low s)).testBit j))) (.mk : Hid C)) (.mk : Hid (CallQ Try.prog 92 [I .i64 (j : Int), .q [.l ((ptsI s).map (I .i64))], .q [.l (next.map U)], .q [U w]] pure (.mk : Hid C))) := CallQ.eq (cut1_spec j next s w) pure C
/-- The place of the first number of which p holds. -/
def firstI (p : Int → Bool) (l : List Int) : Int := match l.findIdx? p with
  | some k => (k : Int)
  | none => -1
theorem firstI_at {p : Int → Bool} {l : List Int} {k : Nat} (h : k < l.length) (h0 : ∀ x ∈ l.take k, p x = false) (hp : p (l.getD k default) = true) : firstI p l = k := by
  unfold firstI
  have : l.findIdx? p = some k := by
    rw [List.findIdx?_eq_some_iff_getElem]
    refine ⟨h, ?_, fun j hj => ?_⟩
    · rw [List.getD_eq_getElem?_getD, List.getElem?_eq_getElem h] at hp
      exact hp
    · have := h0 (l[j]'(by omega)) (by rw [List.mem_take_iff_getElem]; exact ⟨j, by omega, rfl⟩)
      simpa using this
  rw [this]
theorem firstI_no {p : Int → Bool} {l : List Int} (h0 : ∀ x ∈ l, p x = false) : firstI p l = -1 := by
  unfold firstI
  have : l.findIdx? p = none := by
    rw [List.findIdx?_eq_none_iff]
    exact h0
  rw [this]
theorem firstI_any (p : Int → Bool) (l : List Int) : decide (0 ≤ firstI p l) = l.any p := by
  unfold firstI
  cases h : l.findIdx? p with
  | some k =>
    rw [List.findIdx?_eq_some_iff_getElem] at h
    obtain ⟨h1, h2, _⟩ := h
    have : l.any p = true := List.any_eq_true.2 ⟨_, List.getElem_mem h1, h2⟩
    rw [this]; simp
  | none =>
    rw [List.findIdx?_eq_none_iff] at h
    have : l.any p = false := by
      rw [List.any_eq_false]
      intro x hx; rw [h x hx]; decide
    rw [this]; decide
theorem idxF_spec (g : FuncId) (caps : List D) (p : Int → Bool) (l : List Int) (hpre : l.length < 2 ^ 62) (hf : ∀ x ∈ l, FnD Try.prog g (I .i64 x :: caps) (Bo (p x))) : FnD Try.prog 102 [.l (l.map (I .i64)), .f (.func g) caps] (I .i64 (firstI p l)) := by
  refine FnD.go Try.func102 rfl rfl Try.results102 Try.ntmps102 ?_
  simp (implicitDefEqProofs := false) (dsimp := false) only [↓aw_seq, ↓aw_block, ↓aw_loop, ↓aw_reg, ↓Qseq_n, ↓ops_nil, ↓ops_cons, ↓eval_tmp, ↓eval_int, ↓put_some, ↓lenK_l, ↓op_move, ↓op_assign, ↓op_len, ↓sl28, List.getD_cons_zero, List.getD_cons_succ, List.set_cons_zero, List.set_cons_succ, List.cons_append, List.nil_append, List.map_cons, List.map_nil, List.length_cons, List.length_nil, List.length_map, Nat.reduceAdd, Nat.reduceSub, Nat.reduceMul, Nat.zero_add, List.replicate, evK_go, reduceIte, Nat.reduceEqDiff, Nat.reduceLT, Int.zero_add]
  refine loopW (fun k : Nat => { tm := slots 19 [(0, .d (.l (l.map (I .i64)))), (1, .d (.f (.func g) caps)), (7, .d (I .i64 l.length)), (8, .d (I .i64 k))], bx := [], rw := [] })
    (fun k => k ≤ l.length ∧ ∀ x ∈ l.take k, p x = false) (fun k => l.length - k) 0 ⟨by simp, by simp⟩ ?_ ?_
  · refine Wkn.of [] [] ?_; simp (implicitDefEqProofs := false) (dsimp := false) only [List.set_cons_zero, List.set_cons_succ, Bool.and_self, Nat.reduceAdd, Nat.reduceSub, Nat.reduceMul, List.replicate, evK_go, reduceIte, Nat.reduceEqDiff, Nat.reduceLT, and_self, List.foldl_cons, List.foldl_nil, Int.cast_ofNat_Int, slots, wkL_nil, wkL_cons, wkB_nil, wkR_nil, wkV_j, wkV_d, frz_d, reduceCtorEq]
  · rintro k ⟨h1, h2⟩
    simp (implicitDefEqProofs := false) (dsimp := false) only [slots, ↓aw_cond, ↓aw_seq, ↓aw_reg, ↓Qseq_n, ↓ops_nil, ↓ops_cons, ↓eval_tmp, ↓put_some, ↓bK_b, ↓binE_i, ↓bi_lss, ↓op_bin, List.getD_cons_zero, List.getD_cons_succ, List.set_cons_zero, List.set_cons_succ, Nat.reduceAdd, Nat.reduceSub, Nat.reduceMul, List.replicate, evK_go, reduceIte, Nat.reduceEqDiff, Nat.reduceLT, List.foldl_cons, List.foldl_nil, Int.ofNat_lt]
    refine cdK_dec (fun h => ?_) (fun h => ?_)
    · have hc := CallH.eq0 (hf _ (getD_mem h))
      simp (implicitDefEqProofs := false) (dsimp := false) only [h, ↓atK_H, ↓atH_map, ↓aw_seq, ↓aw_block, ↓aw_skip, ↓aw_reg, ↓Qseq_n, ↓ops_nil, ↓ops_cons, ↓eval_tmp, ↓put_some, ↓iK_i, ↓ldK_q, ↓iaK_l, ↓op_move, ↓op_assign, ↓op_load, ↓op_ia, ↓op_call, isD_d, ↓fnK_f, ↓call_H, ↓callK_H, ↓allT_nil, ↓allT_cons, ↓td_d, ↓cells_c, ↓hd_cons, ↓ty3, ↓sl28, List.getD_cons_zero, List.getD_cons_succ, List.set_cons_zero, List.set_cons_succ, List.cons_append, List.nil_append, List.length_cons, List.length_nil, List.all_cons, List.all_nil, Bool.true_and, Bool.and_self, Nat.reduceAdd, Nat.reduceSub, Nat.reduceMul, Nat.zero_add, Int.toNat_natCast, evK_go, reduceIte, decide_true, Nat.reduceEqDiff, Nat.reduceLT, and_self, true_and, Int.zero_add, Int.natCast_nonneg]
      simp (implicitDefEqProofs := false) (dsimp := false) only [hc, ↓aw_cond, ↓Qseq_n, ↓ops_nil, ↓eval_tmp, ↓put_some, ↓bK_b, List.getD_cons_zero, List.getD_cons_succ, List.set_cons_zero, List.set_cons_succ, Bool.true_and, Bool.true_or, Nat.reduceAdd, Nat.reduceSub, Nat.reduceMul, evK_go, reduceIte, Nat.reduceEqDiff, Nat.reduceLT, true_and]
      refine OrH.l (OrH.l (cdK_split (fun hb => ?_) (fun hb => ?_)))
      · simp (implicitDefEqProofs := false) (dsimp := false) only [firstI_at h h2 hb, ↓aw_seq, ↓aw_ret, ↓aw_reg, ↓Qseq_n, ↓Qseq_r, ↓Qblk_r, ↓Qret_r, ↓ops_nil, ↓ops_cons, ↓eval_tmp, ↓put_some, ↓op_move, ↓op_assign, ↓td_d, ↓ret_1, List.getD_cons_zero, List.getD_cons_succ, List.set_cons_zero, List.set_cons_succ, Nat.reduceAdd, Nat.reduceSub, Nat.reduceMul, evK_go, reduceIte, Nat.reduceEqDiff, Nat.reduceLT]
      · simp (implicitDefEqProofs := false) (dsimp := false) only [↓aw_skip, ↓aw_reg, ↓Qseq_n, ↓Qblk_n, ↓ops_nil, ↓ops_cons, ↓eval_tmp, ↓eval_int, ↓put_some, ↓binE_i, ↓bi_add, ↓in_i64, ↓op_move, ↓op_bin, List.getD_cons_zero, List.getD_cons_succ, List.set_cons_zero, List.set_cons_succ, Nat.reduceAdd, Nat.reduceSub, Nat.reduceMul, evK_go, reduceIte, Nat.reduceEqDiff, Nat.reduceLT]
        refine ⟨by omega, k + 1, ⟨by omega, fun x hx => ?_⟩, by omega, ?_⟩
        · rw [take_succ_getD h, List.mem_append, List.mem_singleton] at hx
          rcases hx with hx | rfl
          · exact h2 x hx
          · exact hb
        · refine Wkn.of [] [] ?_; simp (implicitDefEqProofs := false) (dsimp := false) only [List.set_cons_zero, List.set_cons_succ, Bool.and_self, Nat.reduceAdd, Nat.reduceSub, Nat.reduceMul, List.replicate, evK_go, reduceIte, Nat.reduceEqDiff, Nat.reduceLT, and_self, List.foldl_cons, List.foldl_nil, Int.cast_ofNat_Int, Int.natCast_add, slots, wkL_nil, wkL_cons, wkB_nil, wkR_nil, wkV_j, wkV_d, frz_d, reduceCtorEq]
    · obtain rfl : k = l.length := by omega
      rw [List.take_length] at h2
      simp (implicitDefEqProofs := false) (dsimp := false) only [firstI_no h2, ↓aw_seq, ↓aw_exit, ↓aw_ret, ↓aw_reg, ↓Qseq_n, ↓Qseq_x, ↓Qblk_x, ↓Qret_r, ↓ops_nil, ↓ops_cons, ↓eval_tmp, ↓eval_int, ↓put_some, ↓op_assign, ↓td_d, ↓ret_1, List.getD_cons_zero, List.getD_cons_succ, List.set_cons_zero, List.set_cons_succ, Nat.reduceAdd, Nat.reduceSub, Nat.reduceMul, evK_go, reduceIte, decide_false, Nat.reduceEqDiff, Nat.reduceLT, Nat.lt_irrefl]
theorem cut3_spec (s w : Nat) (next : List Nat) (hpre : (∀ j ∈ pts s, j < next.length) ∧ next.length ≤ 64 ∧ w < 2 ^ next.length ∧ ∀ x ∈ next, x < 2 ^ 64) : FnD Try.prog 91 [.l ((ptsI s).map (I .i64)), .f (.func 92) [.q [.l ((ptsI s).map (I .i64))], .q [.l (next.map U)], .q [U w]]] (Bo ((pts s).any fun j => !(reach next w (low s)).testBit j)) := by
  obtain ⟨h1, h2, h3, h4⟩ := hpre
  have hl : (ptsI s).length < 2 ^ 62 := by have := ptsI_len s; omega
  have hf : ∀ x ∈ ptsI s, FnD Try.prog 92 (I .i64 x :: [.q [.l ((ptsI s).map (I .i64))], .q [.l (next.map U)], .q [U w]]) (Bo (!(reach next w (low s)).testBit x.toNat)) := fun x hx => by
    obtain ⟨c, hc, rfl⟩ := List.mem_map.1 hx
    have hne : pts s ≠ [] := List.ne_nil_of_mem hc
    have hlow := h1 _ (low_mem hne)
    exact cut1_spec c next s w ⟨⟨((pts_mem _ _).1 hc).1, hne, hlow⟩, h2, h3, h4⟩
  have hcall := CallH.eq0 (idxF_spec 92 [.q [.l ((ptsI s).map (I .i64))], .q [.l (next.map U)], .q [U w]] (fun x => !(reach next w (low s)).testBit x.toNat) (ptsI s) hl hf)
  have e : (decide (0 ≤ firstI (fun x => !(reach next w (low s)).testBit x.toNat) (ptsI s))) = (pts s).any fun j => !(reach next w (low s)).testBit j := by
    rw [firstI_any]
    unfold ptsI
    rw [List.any_map]; rfl
  refine FnD.go Try.func91 rfl rfl Try.results91 Try.ntmps91 ?_
  simp (implicitDefEqProofs := false) (dsimp := false) only [↓aw_seq, ↓aw_reg, ↓Qseq_n, ↓ops_nil, ↓ops_cons, ↓eval_tmp, ↓eval_bool, ↓eval_func, ↓put_some, ↓op_move, ↓op_assign, ↓op_call, isD_d, ↓fnK_f, ↓call_H, ↓callK_H, ↓allT_nil, ↓allT_cons, ↓td_d, List.getD_cons_zero, List.getD_cons_succ, List.set_cons_zero, List.set_cons_succ, List.cons_append, List.nil_append, List.append_nil, List.map_cons, List.map_nil, List.length_cons, List.length_nil, List.all_cons, List.all_nil, Bool.and_self, Nat.reduceAdd, Nat.reduceSub, Nat.reduceMul, Nat.zero_add, List.replicate, evK_go, reduceIte, Nat.reduceEqDiff, Nat.reduceLT, and_self, Int.zero_add]
  simp (implicitDefEqProofs := false) (dsimp := false) only [hcall, ↓aw_ret, ↓Qseq_n, ↓Qret_r, ↓ops_nil, ↓ops_cons, ↓eval_tmp, ↓eval_int, ↓put_some, ↓binE_i, ↓bi_geq, ↓op_assign, ↓op_bin, ↓td_d, ↓ret_1, List.getD_cons_zero, List.getD_cons_succ, List.set_cons_zero, List.set_cons_succ, Bool.true_and, Bool.true_or, Nat.reduceAdd, Nat.reduceSub, Nat.reduceMul, evK_go, reduceIte, Nat.reduceEqDiff, Nat.reduceLT, true_and]
  (repeat refine OrH.l ?_)
  rw [e]
theorem cut3_call (s w : Nat) (next : List Nat) (pure : Bool) (σ : St) (dst : Option Tmp) (K : St → Prop) : CallH Try.prog 91 [.l ((ptsI s).map (I .i64)), .f (.func 92) [.q [.l ((ptsI s).map (I .i64))], .q [.l (next.map U)], .q [U w]]] pure σ dst (.mk : Hid K) = OrH (((∀ j ∈ pts s, j < next.length) ∧ next.length ≤ 64 ∧ w < 2 ^ next.length ∧ ∀ x ∈ next, x < 2 ^ 64) ∧ (pure || D.flat (Bo ((pts s).any fun j => !(reach next w (low s)).testBit j))) = true ∧ evK (σ.put dst (.d (Bo ((pts s).any fun j => !(reach next w (low s)).testBit j)))) (.mk : Hid K)) (.mk : Hid (CallH Try.prog 91 [.l ((ptsI s).map (I .i64)), .f (.func 92) [.q [.l ((ptsI s).map (I .i64))], .q [.l (next.map U)], .q [U w]]] pure σ dst (.mk : Hid K))) := CallH.eq (cut3_spec s w next) pure σ dst K
theorem cut3_callQ (s w : Nat) (next : List Nat) (pure : Bool) (C : V → Prop) : CallQ Try.prog 91 [.l ((ptsI s).map (I .i64)), .f (.func 92) [.q [.l ((ptsI s).map (I .i64))], .q [.l (next.map U)], .q [U w]]] pure (.mk : Hid C) = OrH (((∀ j ∈ pts s, j < next.length) ∧ next.length ≤ 64 ∧ w < 2 ^ next.length ∧ ∀ x ∈ next, x < 2 ^ 64) ∧ (pure || D.flat (Bo ((pts s).any fun j => !(reach next w (low s)).testBit j))) = true ∧ evK (V.d (Bo ((pts s).any fun j => !(reach next w (low s)).testBit j))) (.mk : Hid C)) (.mk : Hid (CallQ Try.prog 91 [.l ((ptsI s).map (I .i64)), .f (.func 92) [.q [.l ((ptsI s).map (I .i64))], .q [.l (next.map U)], .q [U w]]] pure (.mk : Hid C))) := CallQ.eq (cut3_spec s w next) pure C
def cutR (n : Int) (l : List (Int × Int)) : List Nat := if chk n l = 0 then cutL n.toNat (natL l) else []
def cutK (m : Nat) (L : List (Nat × Nat)) (k : Nat) : List Nat := (List.range k).filter (cutB m L)
theorem cutK_succ (m : Nat) (L : List (Nat × Nat)) (k : Nat) : cutK m L (k + 1) = cutK m L k ++ (if cutB m L k then [k] else []) := by
  unfold cutK
  rw [List.range_succ, List.filter_append]
  simp [List.filter_cons]
theorem cutK_len (m : Nat) (L : List (Nat × Nat)) (k : Nat) : (cutK m L k).length ≤ k := Nat.le_trans (List.length_filter_le _ _) (by simp)
theorem points_spec (n : Int) (l : List (Int × Int)) (hpre : l.length < 2 ^ 62) : FnD Try.prog 56 [I .i64 n, .l (l.map lnD)] (.t [.l ((cutR n l).map nD), erD (chk n l)]) := by
  refine FnD.go Try.func56 rfl rfl Try.results56 Try.ntmps56 ?_
  simp (implicitDefEqProofs := false) (dsimp := false) only [↓aw_seq, ↓aw_reg, ↓Qseq_n, ↓ops_nil, ↓ops_cons, ↓eval_tmp, ↓eval_nil, ↓eval_func, ↓put_some, ↓op_move, ↓op_assign, ↓op_call, isD_d, ↓fnK_f, ↓call_H, ↓callK_H, ↓allT_nil, ↓allT_cons, ↓td_d, List.getD_cons_zero, List.getD_cons_succ, List.set_cons_zero, List.set_cons_succ, List.cons_append, List.nil_append, List.append_nil, List.map_cons, List.map_nil, List.length_cons, List.length_nil, List.all_cons, List.all_nil, Bool.and_self, Nat.reduceAdd, Nat.reduceSub, Nat.reduceMul, Nat.zero_add, List.replicate, evK_go, reduceIte, Nat.reduceEqDiff, Nat.reduceLT, and_self, Int.zero_add]
  simp (implicitDefEqProofs := false) (dsimp := false) only [gcheck_call, eval_nilI, ↓er_neq, er_flat, ↓cdK_not, ↓aw_cond, ↓aw_seq, ↓aw_reg, ↓Qseq_n, ↓ops_nil, ↓ops_cons, ↓eval_tmp, ↓put_some, ↓bK_b, ↓op_move, ↓op_assign, ↓op_bin, List.getD_cons_zero, List.getD_cons_succ, List.set_cons_zero, List.set_cons_succ, Bool.true_and, Bool.or_true, Nat.reduceAdd, Nat.reduceSub, Nat.reduceMul, evK_go, reduceIte, Nat.reduceEqDiff, Nat.reduceLT, true_and]
  refine OrH.l (OrH.l ⟨hpre, ?_⟩)
  refine cdK_dec (fun hc => ?_) (fun hc => ?_)
  rotate_left
  · simp (implicitDefEqProofs := false) (dsimp := false) only [cutR, hc, ↓aw_seq, ↓aw_ret, ↓aw_reg, ↓Qseq_n, ↓Qseq_r, ↓Qret_r, ↓ops_nil, ↓ops_cons, ↓eval_tmp, ↓eval_nil, ↓put_some, ↓op_move, ↓op_assign, ↓td_d, ↓td_nl, ↓ret_2, List.getD_cons_zero, List.getD_cons_succ, List.set_cons_zero, List.set_cons_succ, List.map_nil, Nat.reduceAdd, Nat.reduceSub, Nat.reduceMul, evK_go, reduceIte, decide_false, Bool.not_false, Nat.reduceEqDiff, Nat.reduceLT]
  have ok := chk_ok hc
  rw [show cutR n l = cutL n.toNat (natL l) from if_pos hc, lnD_nat ok.rng, hc]
  have hcr := ok.cr
  have h8 := ok.hi
  have e0 := ok.n0
  clear ok hc hpre
  generalize n.toNat = m at *
  subst e0
  generalize natL l = L at *
  have hsg := symL_good hcr.2.2
  have hSl := outS_len m (symL L)
  have hSt := outS_lt' (n := m) (by omega) hsg
  have hSn : ∀ i j, j ∈ pts ((outS m (symL L)).getD i default) → j < m := fun i j hj => (hsg _ ((mem_next (by omega) hsg).1 hj)).2
  have hw : 2 ^ m - 1 < 2 ^ m := by have := Nat.one_le_two_pow (n := m); omega
  have hw64 : 2 ^ m - 1 < 2 ^ 64 := Nat.lt_of_lt_of_le hw (Nat.pow_le_pow_right (by omega) (by omega))
  have hcb : ∀ i, cutB m L i = (pts ((outS m (symL L)).getD i default)).any fun j => !(reach (outS m (symL L)) (dif (2 ^ m - 1) (2 ^ i)) (low ((outS m (symL L)).getD i default))).testBit j := fun _ => rfl
  simp (implicitDefEqProofs := false) (dsimp := false) only [beside_callD, hcr, ↓aw_seq, ↓aw_block, ↓aw_skip, ↓aw_loop, ↓aw_reg, ↓Qseq_n, ↓ops_nil, ↓ops_cons, ↓eval_tmp, ↓eval_int, ↓eval_nil, ↓eval_func, ↓put_some, ↓put_none, ↓op_move, ↓op_assign, ↓op_call, ↓op_alloc, ↓op_store, isD_d, ↓fnK_f, ↓call_H, ↓callK_H, ↓allT_nil, ↓allT_cons, ↓td_d, ↓addBox_mk, ↓setBox_mk, ↓st_bx, ↓vcells_l, ↓vcells_nl, ↓one_l, ↓vone_d, constV_n, ↓st_p, ↓ty84, ↓zb84, List.getD_cons_zero, List.getD_cons_succ, List.set_cons_zero, List.set_cons_succ, List.nil_append, List.append_nil, List.length_cons, List.length_nil, List.all_cons, List.all_nil, Bool.true_and, Bool.and_self, Bool.true_or, Nat.reduceAdd, Nat.reduceSub, Nat.reduceMul, Nat.zero_add, evK_go, reduceIte, decide_true, Bool.not_true, Nat.reduceEqDiff, Nat.reduceLT, and_self, true_and, Int.zero_add]
  (repeat refine OrH.l ?_)
  generalize outS m (symL L) = S at *
  refine loopW (fun k : Nat => { tm := slots 43 [(0, .d (I .i64 (m : Int))), (7, .p 0 0), (8, .o 0 0 (cutK m L k).length), (21, .d (I .i64 (m : Int))), (22, .d (I .i64 k))], bx := [.d (.l (S.map U))], rw := [some ⟨1, (cutK m L k).map nD⟩] })
    (fun k => k ≤ m) (fun k => m - k) 0 (by simp) ?_ ?_
  · refine Wkn.of [0] [none] ?_
    simp (implicitDefEqProofs := false) (dsimp := false) only [cutK, List.range_zero, List.filter_nil, ↓row_xs, ↓vcells_l, List.getD_cons_zero, List.set_cons_zero, List.set_cons_succ, List.map_nil, List.length_cons, List.length_nil, Bool.and_self, Nat.reduceAdd, Nat.reduceSub, Nat.reduceMul, Nat.zero_add, List.replicate, evK_go, reduceIte, Nat.reduceEqDiff, Nat.reduceLT, and_self, Int.zero_add, List.foldl_cons, List.foldl_nil, Int.cast_ofNat_Int, slots, wkL_nil, wkL_cons, wkB_nil, wkB_cons, wkR_nil, wkR_new, wkV_j, wkV_d, nlK_nl, wkV_o, wkV_p, frz_d, oK_zn, pK_z, reduceCtorEq]
  · intro k hk
    simp (implicitDefEqProofs := false) (dsimp := false) only [slots, ↓aw_cond, ↓aw_seq, ↓aw_reg, ↓Qseq_n, ↓ops_nil, ↓ops_cons, ↓eval_tmp, ↓put_some, ↓bK_b, ↓binE_i, ↓bi_lss, ↓op_bin, List.getD_cons_zero, List.getD_cons_succ, List.set_cons_zero, List.set_cons_succ, Nat.reduceAdd, Nat.reduceSub, Nat.reduceMul, List.replicate, evK_go, reduceIte, Nat.reduceEqDiff, Nat.reduceLT, List.foldl_cons, List.foldl_nil, Int.ofNat_lt]
    refine cdK_dec (fun h => ?_) (fun h => ?_)
    · have hkS : k < S.length := by omega
      have hlt := hSt _ (getD_mem hkS)
      have hk64 : k < 64 := by omega
      have hm64 : m < 64 := by omega
      have hdw := dif_lt (n := 2 ^ k) hw
      have hpre : (∀ j ∈ pts (S.getD k default), j < S.length) ∧ S.length ≤ 64 ∧ dif (2 ^ m - 1) (2 ^ k) < 2 ^ S.length ∧ ∀ x ∈ S, x < 2 ^ 64 := ⟨fun j hj => by rw [hSl]; exact hSn k j hj, by omega, by rw [hSl]; exact hdw, hSt⟩
      have hcl := cutK_len m L k
      simp (implicitDefEqProofs := false) (dsimp := false) only [h, hm64, hk64, hw64, hkS, hlt, below_call, without_call, list_callD, cut3_call, hpre, ← hcb, ↓atK_H, ↓atH_map, ↓nthK_H, ↓nthH_zero, ↓aw_cond, ↓aw_seq, ↓aw_block, ↓aw_skip, ↓aw_reg, ↓Qseq_n, ↓ops_nil, ↓ops_cons, ↓eval_tmp, ↓eval_func, ↓put_some, ↓put_none, ↓bK_b, ↓iK_i, ↓capsK_nil, ↓capsK_cons, ↓ldK_q, ↓ldK_p, ↓iaK_l, ↓op_move, ↓op_assign, ↓op_load, ↓op_ia, ↓op_func, ↓op_call, ↓op_alloc, ↓op_store, isD_d, isD_fp, ↓fnK_f, ↓call_H, ↓callK_H, ↓allT_nil, ↓allT_cons, ↓td_d, ↓boxK_d, ↓td_fp, ↓bq_nil, ↓bq_cons, ↓addBox_mk, ↓setBox_mk, ↓st_bx, ↓cells_c, ↓cells_l, ↓vcells_c, ↓vcells_l, ↓vcells_nl, ↓one_i, ↓one_l, ↓vone_d, constV_i, constV_n, ↓st_p, ↓hd_cons, ↓ty28, ↓zb28, ↓ty84, ↓sl84, ↓ty87, ↓zb87, List.getD_cons_zero, List.getD_cons_succ, List.set_cons_zero, List.set_cons_succ, List.cons_append, List.nil_append, List.append_nil, List.map_cons, List.map_nil, List.length_cons, List.length_nil, List.all_cons, List.all_nil, Bool.and_true, Bool.true_and, Bool.and_self, Bool.and_false, Bool.true_or, Bool.false_or, Nat.reduceAdd, Nat.reduceSub, Nat.reduceMul, Nat.zero_add, Int.toNat_natCast, evK_go, reduceIte, decide_true, Nat.reduceEqDiff, Nat.reduceLT, and_self, true_and, and_true, Int.zero_add, Int.natCast_nonneg]
      (repeat refine OrH.l ?_)
      refine ⟨⟨hpre.1, hSt⟩, rfl, cdK_split (fun hb => ?_) (fun hb => ?_)⟩
      · simp (implicitDefEqProofs := false) (dsimp := false) only [↓optK_some, ↓rwK_mk_, ↓aw_reg, ↓Qseq_n, ↓Qblk_n, ↓ops_nil, ↓ops_cons, ↓eval_tmp, ↓eval_int, ↓put_some, ↓dK_d, ↓binE_i, ↓bi_add, ↓in_i64, ↓op_move, ↓op_assign, ↓op_bin, ↓op_append, ↓allD_nil, ↓allD_cons, ↓app_mk, ↓row_sz, ↓row_xs, kill_d, kill_j, kill_p, kill_fp, kill_o, ↓cells_c, ↓one_i, ↓ap_, ↓ap_o, ↓src_l, ↓bs_, ↓op_bs, ↓bsL_f, ↓stored_mk, ↓sl_nil, ↓sl_cons, ↓sT_move, ↓sT_assign, ↓sT_bs, ↓sT_call, ↓vsz_int, ↓inO_1, ↓fm_nil, ↓fm_cons, ↓ty3, ↓zb3, ↓sl28, List.getD_cons_zero, List.getD_cons_succ, List.set_cons_zero, List.set_cons_succ, List.map_cons, List.map_nil, List.length_cons, List.length_nil, List.length_map, List.all_cons, List.all_nil, Bool.true_and, Bool.and_self, Bool.or_false, Nat.reduceAdd, Nat.reduceSub, Nat.reduceMul, Nat.zero_add, evK_go, reduceIte, Nat.reduceEqDiff, Nat.reduceLT, and_self, true_and, Int.zero_add, List.drop_zero]
        refine ⟨by decide, ⟨fun _ => trivial, by omega, by omega⟩, by omega, k + 1, by omega, by omega, ?_⟩
        refine Wkn.of [0] [some 0] ?_
        simp (implicitDefEqProofs := false) (dsimp := false) only [cutK_succ, hb, if_true, List.map_append, List.length_append, nD, ↓vcells_l, List.getD_cons_zero, List.set_cons_zero, List.set_cons_succ, List.map_cons, List.map_nil, List.length_cons, List.length_nil, Bool.and_self, Nat.reduceAdd, Nat.reduceSub, Nat.reduceMul, Nat.zero_add, List.replicate, evK_go, reduceIte, Nat.reduceEqDiff, Nat.reduceLT, and_self, Int.zero_add, List.foldl_cons, List.foldl_nil, Int.cast_ofNat_Int, Int.natCast_add, slots, wkL_nil, wkL_cons, wkB_nil, wkB_cons, wkR_nil, wkR_some, wkV_j, wkV_d, wkV_o, wkV_p, frz_d, oK_zs, pK_z, reduceCtorEq]
      · simp (implicitDefEqProofs := false) (dsimp := false) only [↓aw_skip, ↓aw_reg, ↓Qseq_n, ↓Qblk_n, ↓ops_nil, ↓ops_cons, ↓eval_tmp, ↓eval_int, ↓put_some, ↓binE_i, ↓bi_add, ↓in_i64, ↓op_move, ↓op_bin, List.getD_cons_zero, List.getD_cons_succ, List.set_cons_zero, List.set_cons_succ, Nat.reduceAdd, Nat.reduceSub, Nat.reduceMul, evK_go, reduceIte, Nat.reduceEqDiff, Nat.reduceLT]
        refine ⟨by omega, k + 1, by omega, by omega, ?_⟩
        refine Wkn.of [0] [some 0] ?_
        simp (implicitDefEqProofs := false) (dsimp := false) only [cutK_succ, hb, Bool.false_eq_true, if_false, List.append_nil, ↓vcells_l, List.getD_cons_zero, List.set_cons_zero, List.set_cons_succ, List.append_nil, List.length_cons, List.length_nil, Bool.and_self, Nat.reduceAdd, Nat.reduceSub, Nat.reduceMul, Nat.zero_add, List.replicate, evK_go, reduceIte, Nat.reduceEqDiff, Nat.reduceLT, and_self, Int.zero_add, List.foldl_cons, List.foldl_nil, Int.cast_ofNat_Int, Int.natCast_add, slots, wkL_nil, wkL_cons, wkB_nil, wkB_cons, wkR_nil, wkR_some, wkV_j, wkV_d, wkV_o, wkV_p, frz_d, oK_zs, pK_z, reduceCtorEq]
    · obtain rfl : k = m := by omega
      simp (implicitDefEqProofs := false) (dsimp := false) only [eval_nilI, ↓optK_some, ↓rwK_mk_, ↓aw_seq, ↓aw_exit, ↓aw_ret, ↓aw_reg, ↓Qseq_n, ↓Qseq_x, ↓Qblk_x, ↓Qret_r, ↓ops_nil, ↓ops_cons, ↓eval_tmp, ↓put_some, ↓op_move, ↓op_assign, ↓td_d, ↓td_o, ↓ret_2, ↓row_xs, ↓take_map, List.getD_cons_zero, List.getD_cons_succ, List.set_cons_zero, List.set_cons_succ, Nat.reduceAdd, Nat.reduceSub, Nat.reduceMul, evK_go, reduceIte, decide_false, Nat.reduceEqDiff, Nat.reduceLT, Nat.lt_irrefl, List.drop_zero]
      rfl
theorem points_call (n : Int) (l : List (Int × Int)) (pure : Bool) (σ : St) (dst : Option Tmp) (K : St → Prop) : CallH Try.prog 56 [I .i64 n, .l (l.map lnD)] pure σ dst (.mk : Hid K) = OrH ((l.length < 2 ^ 62) ∧ (pure || D.flat (.t [.l ((cutR n l).map nD), erD (chk n l)])) = true ∧ evK (σ.put dst (.d (.t [.l ((cutR n l).map nD), erD (chk n l)]))) (.mk : Hid K)) (.mk : Hid (CallH Try.prog 56 [I .i64 n, .l (l.map lnD)] pure σ dst (.mk : Hid K))) := CallH.eq (points_spec n l) pure σ dst K
theorem points_callQ (n : Int) (l : List (Int × Int)) (pure : Bool) (C : V → Prop) : CallQ Try.prog 56 [I .i64 n, .l (l.map lnD)] pure (.mk : Hid C) = OrH ((l.length < 2 ^ 62) ∧ (pure || D.flat (.t [.l ((cutR n l).map nD), erD (chk n l)])) = true ∧ evK (V.d (.t [.l ((cutR n l).map nD), erD (chk n l)])) (.mk : Hid C)) (.mk : Hid (CallQ Try.prog 56 [I .i64 n, .l (l.map lnD)] pure (.mk : Hid C))) := CallQ.eq (points_spec n l) pure C
end Go.Proofs

namespace Go.Proofs
open Go.Aw
set_option linter.unusedSimpArgs false
set_option maxRecDepth 10000
theorem ty93 (k : Bool → Nat → Prop) : tyK Try.prog 93 k = k false 1 := tyK_eq (by kernel_rfl) k
theorem zb93 (k : Value → Nat → Prop) : zbK Try.prog 93 k = k .nilFunc 8 := zbK_eq (by kernel_rfl) k
/-- The boxes that it works on. -/
def tB (next : List Nat) (right sn : Nat) (rest : List V) : List V := .d (.l (next.map U)) :: .o 0 0 right :: .d (U sn) :: .fp (.func 97) [0, 2, 1, 3] :: rest
def tR (has : List Int) (restR : List (Option Row)) : List (Option Row) := some ⟨1, has.map (I .i64)⟩ :: restR
theorem end0 {α : Type} (rest : List α) (x : α) (ys : List α) (d : α) : (rest ++ x :: ys).getD rest.length d = x := by simp [List.getD_eq_getElem?_getD]
theorem end1 {α : Type} (rest : List α) (x y : α) (ys : List α) (d : α) : (rest ++ x :: y :: ys).getD (rest.length + 1) d = y := by simp [List.getD_eq_getElem?_getD, List.getElem?_append_right]
theorem endS1 {α : Type} (rest : List α) (x y z : α) (ys : List α) : (rest ++ x :: y :: ys).set (rest.length + 1) z = rest ++ x :: z :: ys := by simp [List.set_append]
theorem cells_fp (fn : Fn) (ps : List Nat) : (V.fp fn ps).cells = [.fp fn ps] := rfl
theorem ret_of {σ : St} {a b : Nat} {v : Value} {R : D → Prop} (h1 : σ.tm.getD a .j = .p b 0) (h2 : σ.bx.getD b .j = .d (.c v)) (h : R (.c v)) : retD Try.prog σ [.cell a 4] R := by
  show rvK Try.prog σ (.cell a 4) R
  unfold rvK
  simp (implicitDefEqProofs := false) (dsimp := false) only [h1, ty4, h2]
  exact nthK_mk (y := .d (.c v)) rfl (show tdK σ (.d (.c v)) R from h)
theorem try_spec {left right : Nat} {l : List (Nat × Nat)} (hr : right ≤ 8) (hl8 : left ≤ 8) (hg : ∀ i j, j ∈ pts ((outS (max left 1) l).getD i default) ↔ (i, j) ∈ l) (hlt : ∀ x ∈ outS (max left 1) l, x < 2 ^ 64) (hsd : Sides left right l) :
    ∀ (m i : Nat) (s : KS) (rest : List V) (restR : List (Option Row)) (gh : List V), i < left → HasOK right left l s.has → s.has.length = right → s.seen < 2 ^ 64 → unseen right s.seen < m → (∀ x ∈ rest, ∀ y ∈ x.cells, y.below (rest.length + 4)) →
    FnM Try.prog 97 [.d (I .i64 (i : Int)), .p 0 0, .p 2 0, .p 1 0, .p 3 0] (tB (outS (max left 1) l) right s.seen rest) (tR s.has restR) gh (fun d bx' rw' gh' => gh' = gh ∧ d = Bo (tryF (outS (max left 1) l) m i s).1 ∧
      bx' = tB (outS (max left 1) l) right (tryF (outS (max left 1) l) m i s).2.seen rest ∧ rw' = tR (tryF (outS (max left 1) l) m i s).2.has restR) := by
  intro m
  induction m with
  | zero => intro i s rest restR gh _ _ _ _ h; omega
  | succ m ih =>
    intro i s rest restR gh hi hok hlen hseen hun hrest
    have hol := outS_len (max left 1) l
    obtain ⟨next, hnext⟩ : ∃ next, next = outS (max left 1) l := ⟨_, rfl⟩
    have hts := fun (m i : Nat) (s : KS) h1 h2 => tryF_spec hsd (by omega) hg m i s h1 h2
    rw [← hnext] at hg hlt hol ih hts ⊢
    have hin : i < next.length := by omega
    have hnl := hlt _ (getD_mem hin)
    obtain ⟨res, hres⟩ : ∃ res, res = tryF next (m + 1) i s := ⟨_, rfl⟩
    rw [← hres]
    refine FnM.shrink (Kf' := fun d bx' rw' gh' => gh' = gh ∧ d = Bo res.1 ∧ (∃ a b, bx' = tB next right res.2.seen (rest ++ [a, b])) ∧ rw' = tR res.2.has restR) (FnM.go Try.func97 rfl rfl Try.results97 Try.ntmps97 ?_) ?_
    rotate_left
    · rintro d bx' rw' gh' ⟨rfl, rfl, ⟨a, b, rfl⟩, rfl⟩
      refine ⟨rfl, tB next right res.2.seen rest, [a, b], by simp [tB], by simp [tB], ?_, rfl, rfl, rfl, rfl⟩
      intro x hx y hy
      have hL : (tB next right res.2.seen rest).length = rest.length + 4 := by simp [tB]
      rw [hL]
      simp (implicitDefEqProofs := false) (dsimp := false) only [tB, List.mem_cons] at hx
      rcases hx with rfl | rfl | rfl | rfl | hx
      · simp [V.cells] at hy; subst hy; trivial
      · simp [V.cells] at hy; subst hy; trivial
      · have : y = .d (U res.2.seen) := by simpa [V.cells, U] using hy
        subst this; trivial
      · simp [V.cells] at hy; subst hy
        intro b hb
        simp at hb; omega
      · exact hrest x hx y hy
    · simp (implicitDefEqProofs := false) (dsimp := false) only [tB, tR, hin, each_call, List.append_assoc, List.length_append, end0, ↓atK_H, ↓atH_map, ↓nthK_H, ↓nthH_zero, ↓aw_seq, ↓aw_block, ↓aw_rng, ↓aw_reg, ↓Qseq_n, ↓ops_nil, ↓ops_cons, ↓eval_tmp, ↓eval_func, ↓put_some, ↓iK_i, ↓ldK_q, ↓ldK_p, ↓iaK_l, ↓op_load, ↓op_ia, ↓op_call, ↓op_alloc, ↓op_box, isD_d, ↓fnK_f, ↓call_H, ↓callK_H, ↓allT_nil, ↓allT_cons, ↓td_d, ↓addBox_mk, ↓st_bx, ↓cells_c, ↓vcells_c, ↓vcells_l, ↓one_i, ↓vone_d, constV_b, ↓hd_cons, ↓ty3, ↓zb4, ↓ty84, ↓sl84, ↓ty87, List.getD_cons_zero, List.getD_cons_succ, List.set_cons_zero, List.set_cons_succ, List.cons_append, List.nil_append, List.append_nil, List.length_cons, List.length_nil, List.all_cons, List.all_nil, Bool.true_and, Bool.and_self, Bool.true_or, Nat.reduceAdd, Nat.reduceSub, Nat.reduceMul, Nat.zero_add, Int.toNat_natCast, List.replicate, evK_go, reduceIte, Nat.reduceEqDiff, Nat.reduceLT, and_self, true_and, Int.zero_add, Int.natCast_nonneg]
      (repeat refine OrH.l ?_)
      refine rangeG (slots 37 [(1, .p 0 0), (2, .p 2 0), (3, .p 1 0), (4, .p 3 0), (5, .p (rest.length + 1 + 1 + 1 + 1) 0), (6, .p (rest.length + 1 + 1 + 1 + 1 + 1) 0), (12, .d (.f (.func 99) [.q [U (next.getD i default)]]))]) gh
        (fun st : KS => .d (.l (next.map U)) :: .o 0 0 right :: .d (U st.seen) :: .fp (.func 97) [0, 2, 1, 3] :: (rest ++ [.d (I .i64 (i : Int)), .d (Bo false)])) (fun st => some ⟨1, st.has.map (I .i64)⟩ :: restR)
        (fun ys st => ∃ P : List Nat, ys = P.map Int.ofNat ∧ (∀ rs, P ++ rs = pts (next.getD i default) → res = tryL (tryF next m) i rs st) ∧ HasOK right left l st.has ∧ st.has.length = right ∧ st.seen < 2 ^ 64 ∧ unseen right st.seen < m + 1) s
        (each_iter _ hnl) ?_ ⟨[], rfl, fun rs h => by rw [hres]; show tryL _ i (pts (next.getD i default)) s = _; rw [← h]; rfl, hok, hlen, hseen, hun⟩ ?_ ?_ ?_
      · simp (implicitDefEqProofs := false) (dsimp := false) only [slots, ↓eval_tmp, List.getD_cons_zero, List.getD_cons_succ, List.set_cons_zero, List.set_cons_succ, Nat.reduceAdd, Nat.reduceSub, Nat.reduceMul, List.replicate, evK_go, reduceIte, Nat.reduceEqDiff, Nat.reduceLT, List.foldl_cons, List.foldl_nil]
      · refine TmLe.wkn ?_
        simp (implicitDefEqProofs := false) (dsimp := false) only [slots, tmLe_nil, tmLe_j, tmLe_s, List.set_cons_zero, List.set_cons_succ, Nat.reduceAdd, Nat.reduceSub, Nat.reduceMul, List.replicate, evK_go, reduceIte, Nat.reduceEqDiff, Nat.reduceLT, List.foldl_cons, List.foldl_nil]
      · rintro ys x st hpx ⟨P, rfl, hrs, hok', hlen', hseen', hun'⟩
        obtain ⟨P', c, hP, rfl, hcc⟩ := prefix_map hpx
        obtain rfl : P = P' := ofNat_inj hP
        have hcm := hcc.subset (by simp : c ∈ P ++ [c])
        have hcr : c < right := (hsd _ ((hg i c).1 hcm)).2
        have hch : c < st.has.length := by omega
        obtain ⟨rs, hrs0⟩ := hcc
        have hthis := hrs (c :: rs) (by rw [← hrs0]; simp)
        have hnext' : ∀ st' : KS, res = tryL (tryF next m) i rs st' → ∀ rs', P ++ [c] ++ rs' = pts (next.getD i default) → res = tryL (tryF next m) i rs' st' := fun st' h rs' h' => by
          have : rs' = rs := List.append_cancel_left (h'.trans hrs0.symm)
          rw [this]; exact h
        have hc64 : c < 64 := by omega
        have hc64' : c ≤ 64 := by omega
        obtain ⟨has, seen⟩ := st
        simp only at hok' hlen' hseen' hun' hch
        simp (implicitDefEqProofs := false) (dsimp := false) only [slots, hasS_call, hseen', hc64', List.getD_cons_succ, ↓nthK_H, ↓nthH_zero, ↓aw_cond, ↓aw_seq, ↓aw_block, ↓aw_reg, ↓Qseq_n, ↓ops_nil, ↓ops_cons, ↓eval_tmp, ↓eval_func, ↓put_some, ↓bK_b, ↓ldK_p, ↓op_move, ↓op_assign, ↓op_load, ↓op_call, isD_d, ↓fnK_f, ↓call_H, ↓callK_H, ↓allT_nil, ↓allT_cons, ↓td_d, ↓vcells_c, ↓Qn_n, ↓ty87, List.getD_cons_zero, List.getD_cons_succ, List.set_cons_zero, List.set_cons_succ, List.cons_append, List.nil_append, List.append_nil, List.all_cons, List.all_nil, Bool.true_and, Bool.and_self, Bool.true_or, Nat.reduceAdd, Nat.reduceSub, Nat.reduceMul, List.replicate, evK_go, reduceIte, Nat.reduceEqDiff, Nat.reduceLT, and_self, true_and, List.foldl_cons, List.foldl_nil]
        refine OrH.l (OrH.l (cdK_split (fun hb => ?_) (fun hb => ?_)))
        · simp (implicitDefEqProofs := false) (dsimp := false) only [QB_n, QB_x, backN_mk, ↓aw_seq, ↓aw_exit, ↓aw_ret, ↓aw_reg, ↓Qseq_n, ↓Qseq_x, ↓Qblk_x, ↓ops_nil, ↓ops_cons, ↓eval_tmp, ↓eval_bool, ↓put_none, ↓op_store, Nat.reduceAdd, Nat.reduceSub, Nat.reduceMul, evK_go, reduceIte, Nat.reduceEqDiff, Nat.reduceLT]
          refine ⟨⟨has, seen⟩, ⟨P ++ [c], by simp, hnext' _ (by rw [hthis]; show (if _ then _ else _) = _; rw [if_pos hb]), hok', hlen', hseen', hun'⟩, ?_⟩
          exact Wkn.refl _
        · have hor : seen ||| 2 ^ c < 2 ^ 64 := Nat.or_lt_two_pow hseen' (Nat.pow_lt_pow_right (by omega) hc64)
          rcases Int.lt_or_le (has.getD c default) 0 with hneg | hpos
          · have hd : decide (has.getD c default < 0) = true := decide_eq_true hneg
            simp (implicitDefEqProofs := false) (dsimp := false) only [with_call, hseen', hc64, hlen', hcr, hd, end0, end1, endS1, QB_r, QM_r, backN_mk, ↓cdK_true, ↓gdK_f, ↓gval_mk, ↓gvL_zero, ↓gvL_succ, ↓optK_some, ↓rwK_mk_, ↓atK_H, ↓atH_map, ↓nthK_H, ↓nthH_zero, ↓aw_cond, ↓aw_seq, ↓aw_ret, ↓aw_skip, ↓aw_reg, ↓aw_draw, ↓Qseq_n, ↓Qseq_r, ↓Qblk_r, ↓ops_nil, ↓ops_cons, ↓eval_tmp, ↓eval_int, ↓eval_bool, ↓eval_func, ↓put_some, ↓put_none, ↓bK_b, ↓iK_i, ↓dK_d, ↓ev_move, ↓ev_pick, ↓ev_load, ↓ev_bin, ↓ev_ia, ↓binE_i, ↓bi_lss, ↓ldK_p, ↓ldK_e, ↓iaK_o, ↓op_move, ↓op_load, ↓op_ia, ↓op_call, ↓op_store, isD_d, ↓fnK_f, ↓call_H, ↓callK_H, ↓allT_nil, ↓allT_cons, ↓td_d, ↓draw_H, ↓h_nil, ↓h_cons, ↓ldH_n, ↓ldH_g, ↓q_move, ↓q_pick, ↓q_load, ↓q_bin, ↓q_ia, ↓il_move, ↓il_pick, ↓il_load, ↓il_bin, ↓il_ia, ↓il_call, ↓setBox_mk, ↓setRow_mk, ↓st_tm, ↓st_bx, ↓st_rw, ↓st_gh, ↓row_sz, ↓row_xs, ↓cells_c, ↓vcells_c, ↓vcells_o, ↓one_i, ↓one_b, ↓vone_d, ↓st_p, ↓st_e, ↓ty3, ↓ty4, ↓ty28, ↓sl28, ↓ty87, List.getD_cons_zero, List.getD_cons_succ, List.set_cons_zero, List.set_cons_succ, List.append_nil, List.length_cons, List.length_nil, List.all_cons, List.all_nil, Bool.true_and, Bool.and_self, Bool.true_or, Nat.reduceAdd, Nat.reduceSub, Nat.reduceMul, Nat.zero_add, Int.toNat_natCast, evK_go, reduceIte, Nat.reduceEqDiff, Nat.reduceLT, and_self, true_and, Int.zero_add, Int.ofNat_lt, Int.natCast_nonneg]
            (repeat refine OrH.l ?_)
            refine ⟨DrawH.of follows_mixed (by kernel_rfl), ?_⟩
            have hval : res = (true, ⟨has.set c (i : Int), seen ||| 2 ^ c⟩) := by
              rw [hthis]
              show (if _ then _ else (if _ then _ else _)) = _
              rw [if_neg (by rw [hb]; decide), if_pos hneg]
            refine ret_of rfl (end1 _ _ _ _ _) ⟨rfl, ?_, ⟨.d (I .i64 (i : Int)), .d (Bo true), ?_⟩, ?_⟩
            · rw [hval]; try rfl
            · rw [hval]; try rfl
            · rw [hval]
              simp (implicitDefEqProofs := false) (dsimp := false) only [tR, List.map_set]
          · obtain ⟨x, hx2, hx1, hx3⟩ := hok'.nat hcr (by omega)
            have hd : decide (has.getD c default < 0) = false := by rw [decide_eq_false_iff_not]; omega
            simp (implicitDefEqProofs := false) (dsimp := false) only [with_call, hseen', hc64, hlen', hcr, hd, ty93, ↓cdK_false, ↓gdK_f, ↓gval_mk, ↓gvL_zero, ↓gvL_succ, ↓optK_some, ↓rwK_mk_, ↓atK_H, ↓atH_map, ↓nthK_H, ↓nthH_zero, ↓aw_seq, ↓aw_skip, ↓aw_reg, ↓aw_draw, ↓Qseq_n, ↓ops_nil, ↓ops_cons, ↓eval_tmp, ↓eval_int, ↓eval_func, ↓put_some, ↓put_none, ↓iK_i, ↓ev_move, ↓ev_load, ↓ev_bin, ↓ev_ia, ↓binE_i, ↓bi_lss, ↓ldK_p, ↓ldK_e, ↓iaK_o, ↓op_move, ↓op_load, ↓op_call, ↓op_store, isD_d, ↓fnK_f, ↓call_H, ↓callK_H, ↓callKQ_H, ↓allT_nil, ↓allT_cons, ↓td_d, ↓draw_H, ↓h_cons, ↓ldH_n, ↓ldH_g, ↓q_call, ↓q_move, ↓q_load, ↓q_bin, ↓q_ia, ↓il_move, ↓il_load, ↓il_bin, ↓il_ia, ↓il_call, ↓setBox_mk, ↓st_tm, ↓st_bx, ↓row_sz, ↓row_xs, ↓cells_c, ↓vcells_c, ↓vcells_o, ↓one_i, ↓vone_d, ↓st_p, ↓ty3, ↓ty28, ↓sl28, ↓ty87, List.getD_cons_zero, List.getD_cons_succ, List.set_cons_zero, List.set_cons_succ, List.cons_append, List.nil_append, List.append_nil, List.length_cons, List.length_nil, List.all_cons, List.all_nil, Bool.true_and, Bool.and_self, Bool.true_or, Nat.reduceAdd, Nat.reduceSub, Nat.reduceMul, Nat.zero_add, Int.toNat_natCast, evK_go, reduceIte, Nat.reduceEqDiff, Nat.reduceLT, and_self, true_and, Int.zero_add, Int.ofNat_lt, Int.natCast_nonneg]
            refine OrH.l (OrH.l (OrH.r (draw_n 11 follows_mixed (by kernel_rfl) ?_)))
            simp (implicitDefEqProofs := false) (dsimp := false) only [hn_n, hn_g, hn_z, cells_fp, hcr, hlen', hd, ty93, ↓cdK_false, ↓gdK_f, ↓gval_mk, ↓gvL_zero, ↓gvL_succ, ↓optK_some, ↓rwK_mk_, ↓atK_H, ↓atH_map, ↓nthK_H, ↓nthH_zero, ↓ops_guard, ↓eval_tmp, ↓eval_int, ↓put_some, ↓iK_i, ↓ev_move, ↓ev_load, ↓ev_bin, ↓ev_ia, ↓binE_i, ↓bi_lss, ↓ldK_p, ↓ldK_e, ↓iaK_o, ↓op_call, isD_d, isD_fp, ↓fnK_f, ↓call_H, ↓callK_H, ↓allT_nil, ↓allT_cons, ↓td_d, ↓boxK_d, ↓td_fp, ↓bq_nil, ↓bq_cons, ↓q_move, ↓q_load, ↓q_bin, ↓q_ia, ↓st_tm, ↓row_sz, ↓row_xs, ↓cells_c, ↓cells_l, ↓vcells_o, ↓ty3, ↓ty28, ↓sl28, List.getD_cons_zero, List.getD_cons_succ, List.set_cons_zero, List.set_cons_succ, List.cons_append, List.nil_append, List.all_cons, List.all_nil, Bool.and_true, Bool.true_and, Bool.and_self, Nat.reduceAdd, Nat.reduceSub, Nat.reduceMul, Nat.zero_add, Int.toNat_natCast, evK_go, reduceIte, Nat.reduceEqDiff, Nat.reduceLT, and_self, true_and, and_true, Int.zero_add, Int.ofNat_lt, Int.natCast_nonneg]
            have hb' : seen.testBit c = false := hb
            have hunl : unseen right (seen ||| 2 ^ c) < m := by have := unseen_lt hcr hb'; omega
            have hrest' : ∀ y ∈ rest ++ [V.d (I .i64 (i : Int)), .d (Bo false)], ∀ z ∈ y.cells, z.below ((rest ++ [V.d (I .i64 (i : Int)), .d (Bo false)]).length + 4) := by
              intro y hy z hz
              rcases List.mem_append.1 hy with hy | hy
              · have h1 := hrest y hy z hz
                rw [List.length_append]
                cases z with
                | p b sub => show _ < _; have h1 : b < rest.length + 4 := h1; omega
                | fp fn ps => intro b hb; have h1 : b < rest.length + 4 := h1 b hb; omega
                | _ => trivial
              · simp (implicitDefEqProofs := false) (dsimp := false) only [List.mem_cons, List.not_mem_nil, or_false] at hy
                rcases hy with rfl | rfl
                · simp [V.cells, I] at hz; subst hz; trivial
                · simp [V.cells, Bo] at hz; subst hz; trivial
            have hts' := hts m x ⟨has, seen ||| 2 ^ c⟩ hok' hunl
            have hval : res = match tryF next m x ⟨has, seen ||| 2 ^ c⟩ with
                | (true, s2) => (true, (⟨s2.has.set c (i : Int), s2.seen⟩ : KS))
                | (false, s2) => tryL (tryF next m) i rs s2 := by
              rw [hthis]
              show (if _ then _ else (if _ then _ else _)) = _
              rw [if_neg (by rw [hb]; decide), if_neg (by show ¬ has.getD c default < 0; omega)]
              show (match tryF next m (has.getD c default).toNat ⟨has, seen ||| 2 ^ c⟩ with
                | (true, s2) => (true, (⟨s2.has.set c (i : Int), s2.seen⟩ : KS))
                | (false, s2) => tryL (tryF next m) i rs s2) = _
              rw [hx1, Int.toNat_natCast]
            rw [hx1]
            refine OrH.r (callM2 (fun gh => ih x ⟨has, seen ||| 2 ^ c⟩ (rest ++ [.d (I .i64 (i : Int)), .d (Bo false)]) restR gh hx2 hok' hlen' hor hunl hrest') rfl rfl rfl rfl rfl ?_)
            rintro d bx' rw' gh' ⟨rfl, rfl, rfl, rfl⟩
            refine ⟨rfl, ?_⟩
            generalize tryF next m x ⟨has, seen ||| 2 ^ c⟩ = r at hts' hval ⊢
            obtain ⟨b, has2, seen2⟩ := r
            simp only at hts' hval ⊢
            cases b with
            | true =>
              simp only at hval
              have hlen2 : has2.length = right := by
                have := (hts'.yes rfl).1.len
                simp only at this
                omega
              simp (implicitDefEqProofs := false) (dsimp := false) only [tB, tR, hcr, end0, end1, endS1, QB_r, QM_r, backN_mk, ↓cdK_true, ↓cdK_false, ↓optK_some, ↓rwK_mk_, ↓nthK_H, ↓nthH_zero, ↓aw_cond, ↓aw_seq, ↓aw_ret, ↓aw_reg, ↓Qseq_n, ↓Qseq_r, ↓Qblk_r, ↓ops_nil, ↓ops_cons, ↓eval_tmp, ↓eval_bool, ↓put_some, ↓put_none, ↓bK_b, ↓iK_i, ↓dK_d, ↓ldK_p, ↓iaK_o, ↓op_move, ↓op_pick, ↓op_load, ↓op_ia, ↓op_store, ↓setBox_mk, ↓setRow_mk, ↓st_bx, ↓st_rw, ↓st_gh, ↓row_sz, ↓row_xs, ↓cells_c, ↓vcells_c, ↓vcells_o, ↓one_i, ↓one_b, ↓vone_d, ↓st_p, ↓st_e, ↓ty3, ↓ty4, ↓ty28, ↓sl28, List.getD_cons_zero, List.getD_cons_succ, List.set_cons_zero, List.set_cons_succ, List.cons_append, List.nil_append, List.length_cons, List.length_nil, List.all_cons, List.all_nil, Bool.true_and, Bool.and_self, Nat.reduceAdd, Nat.reduceSub, Nat.reduceMul, Nat.zero_add, Int.toNat_natCast, evK_go, reduceIte, Nat.reduceEqDiff, Nat.reduceLT, and_self, true_and, Int.zero_add, List.drop_zero, List.take_succ_cons, List.drop_succ_cons, List.take_zero, Int.ofNat_lt, Int.natCast_nonneg]
              refine ret_of rfl (end1 _ _ _ _ _) ⟨rfl, ?_, ⟨.d (I .i64 (i : Int)), .d (Bo true), ?_⟩, ?_⟩
              · rw [hval]; try rfl
              · rw [hval]; try rfl
              · rw [hval]
                simp (implicitDefEqProofs := false) (dsimp := false) only [List.map_set]
            | false =>
              simp only at hval
              simp (implicitDefEqProofs := false) (dsimp := false) only [tB, tR, QB_n, backN_mk, ↓cdK_false, ↓aw_cond, ↓aw_skip, ↓Qseq_n, ↓Qblk_n, ↓ops_nil, ↓ops_cons, ↓eval_tmp, ↓put_some, ↓bK_b, ↓op_pick, List.getD_cons_zero, List.getD_cons_succ, List.set_cons_zero, List.set_cons_succ, List.cons_append, List.nil_append, List.length_cons, List.length_nil, Nat.reduceAdd, Nat.reduceSub, Nat.reduceMul, Nat.zero_add, evK_go, reduceIte, Nat.reduceEqDiff, Nat.reduceLT, Int.zero_add, List.drop_zero, List.take_succ_cons, List.drop_succ_cons, List.take_zero]
              have hno := hts'.no rfl
              simp only at hno
              have hun2 : unseen right seen2 ≤ unseen right seen := unseen_le fun j hj => hts'.mono j (by show (seen ||| 2 ^ c).testBit j = true; rw [Nat.testBit_or, hj]; rfl)
              refine ⟨⟨has2, seen2⟩, ⟨P ++ [c], by simp, hnext' _ hval, by rw [hno.1]; exact hok', by rw [hno.1]; exact hlen', hts'.lt hor, by show unseen right seen2 < m + 1; omega⟩, ?_⟩
              exact Wkn.refl _
      · rintro st ⟨P, hP, hrs, hok', hlen', hseen', hun'⟩
        have hP : P = pts (next.getD i default) := (ofNat_inj hP).symm
        have hthis := hrs [] (by rw [hP]; simp)
        simp (implicitDefEqProofs := false) (dsimp := false) only [slots, endS1, end1, QM_r, ↓aw_seq, ↓aw_ret, ↓aw_reg, ↓Qseq_n, ↓Qblk_n, ↓ops_nil, ↓ops_cons, ↓eval_tmp, ↓eval_bool, ↓put_none, ↓op_store, ↓setBox_mk, ↓st_bx, ↓st_rw, ↓st_gh, ↓vcells_c, ↓one_b, ↓vone_d, ↓st_p, ↓ty4, List.getD_cons_zero, List.getD_cons_succ, List.set_cons_zero, List.set_cons_succ, List.length_cons, List.length_nil, List.all_cons, List.all_nil, Bool.true_and, Bool.and_self, Nat.reduceAdd, Nat.reduceSub, Nat.reduceMul, Nat.zero_add, List.replicate, evK_go, reduceIte, Nat.reduceEqDiff, Nat.reduceLT, and_self, true_and, Int.zero_add, List.foldl_cons, List.foldl_nil]
        refine ret_of rfl (end1 _ _ _ _ _) ⟨?_, ⟨.d (I .i64 (i : Int)), .d (Bo false), ?_⟩, ?_⟩
        · rw [hthis]; try rfl
        · rw [hthis]; try rfl
        · rw [hthis]; try rfl
end Go.Proofs

namespace Go.Proofs
open Go.Aw
set_option linter.unusedSimpArgs false
set_option maxRecDepth 10000
def kuhnK (left right : Nat) (l : List (Nat × Nat)) (k : Nat) : List Int := (List.range k).foldl (kuhnI (outS (max left 1) l) right) (List.replicate right (-1))
theorem kuhnK_ok {left right : Nat} {l : List (Nat × Nat)} (hl : Sides left right l) (hr : right ≤ 64) (k : Nat) : HasOK right left l (kuhnK left right l k) := by
  have : ∀ k, ∃ F D, KI left right l k (kuhnK left right l k) F D := by
    intro k
    induction k with
    | zero =>
      refine ⟨fun _ => False, fun _ => False, ⟨⟨by simp [kuhnK], fun j hj => .inl ?_⟩, fun y => ⟨fun h => by omega, fun _ => ?_⟩, fun f hf => hf.elim, fun f hf => hf.elim, fun j hj => hj.elim⟩⟩
      · show (List.replicate right (-1 : Int)).getD j default = -1
        rw [List.getD_eq_getElem?_getD, List.getElem?_replicate, if_pos hj]; rfl
      · show (List.replicate right (-1 : Int)).count (y : Int) = 0
        rw [List.count_eq_zero]
        intro h
        have := (List.mem_replicate.1 h).2
        omega
    | succ k ih =>
      obtain ⟨F, D, h⟩ := ih
      unfold kuhnK
      rw [range_foldl]
      exact h.step hl hr (outS_sides hl hr)
  obtain ⟨_, _, h⟩ := this k
  exact h.ok
theorem kuhnK_succ (left right : Nat) (l : List (Nat × Nat)) (k : Nat) : kuhnK left right l (k + 1) = (tryF (outS (max left 1) l) (right + 1) k ⟨kuhnK left right l k, 0⟩).2.has := range_foldl _ _ _
def negI (right k : Nat) : List Int := List.replicate k (-1 : Int) ++ List.replicate (right - k) 0
theorem negI_len {right k : Nat} (h : k ≤ right) : (negI right k).length = right := by simp [negI]; omega
theorem negI_set {right k : Nat} (h : k < right) : (negI right k).set k (-1) = negI right (k + 1) := by
  unfold negI
  rw [List.set_append_right _ _ (by simp), List.length_replicate, Nat.sub_self, show right - k = (right - (k + 1)) + 1 by omega, List.replicate_succ, List.set_cons_zero, List.replicate_succ', List.append_assoc]; rfl
theorem negI_end (right : Nat) : negI right right = List.replicate right (-1) := by simp [negI]
theorem negI_zero (right : Nat) : (negI right 0).map (I .i64) = List.replicate right (I .i64 0) := by simp [negI]
theorem pairs_spec (left right : Nat) (l : List (Nat × Nat)) (hpre : left ≤ 8 ∧ right ≤ 8 ∧ l.length < 2 ^ 62 ∧ Sides left right l) : FnR Try.prog 68 [I .i64 (left : Int), I .i64 (right : Int), .l (l.map lnN)] 1 ((kuhn left right l).map (I .i64)) := by
  obtain ⟨hl8, hr8, hl62, hs⟩ := hpre
  have hout : max left 1 ≤ 64 ∧ l.length < 2 ^ 62 ∧ ∀ p ∈ l, p.1 < max left 1 ∧ p.2 < 64 := ⟨by omega, hl62, fun p hp => by have := hs p hp; omega⟩
  have hg := outS_sides hs (by omega : right ≤ 64)
  have hlt : ∀ x ∈ outS (max left 1) l, x < 2 ^ 64 := outS_lt _ _ fun p hp => by have := hs p hp; omega
  have hmax : (if 1 > (left : Int) then (1 : Int) else (left : Int)) = ((max left 1 : Nat) : Int) := by split <;> omega
  have htry := try_spec hr8 hl8 hg hlt hs
  refine FnR.go Try.func68 rfl rfl Try.results68 Try.ntmps68 ?_
  simp (implicitDefEqProofs := false) (dsimp := false) only [↓aw_seq, ↓aw_reg, ↓Qseq_n, ↓ops_nil, ↓ops_cons, ↓eval_tmp, ↓eval_int, ↓eval_nil, ↓eval_func, ↓put_some, ↓iK_i, ↓op_move, ↓op_assign, ↓op_max, ↓op_call, isD_d, ↓fnK_f, ↓call_H, ↓callK_H, ↓allT_nil, ↓allT_cons, ↓td_d, List.getD_cons_zero, List.getD_cons_succ, List.set_cons_zero, List.set_cons_succ, List.cons_append, List.nil_append, List.append_nil, List.map_cons, List.map_nil, List.length_cons, List.length_nil, List.all_cons, List.all_nil, Bool.true_and, Bool.and_self, Nat.reduceAdd, Nat.reduceSub, Nat.reduceMul, Nat.zero_add, List.replicate, evK_go, reduceIte, Nat.reduceEqDiff, Nat.reduceLT, and_self, true_and, Int.zero_add]
  simp (implicitDefEqProofs := false) (dsimp := false) only [hmax, out_callD, hout, ↓optK_some, ↓rwK_mk_, ↓nthK_H, ↓nthH_zero, ↓aw_seq, ↓aw_block, ↓aw_loop, ↓aw_reg, ↓Qseq_n, ↓ops_nil, ↓ops_cons, ↓eval_tmp, ↓eval_int, ↓put_some, ↓put_none, ↓iK_i, ↓dK_d, ↓lenK_o, ↓ldK_p, ↓op_move, ↓op_load, ↓op_len, ↓op_alloc, ↓op_store, ↓op_make, ↓addBox_mk, ↓addRow_mk, ↓setBox_mk, ↓st_bx, ↓st_rw, ↓cells_c, ↓vcells_l, ↓vcells_nl, ↓vcells_o, ↓one_i, ↓one_l, ↓vone_d, ↓vone_o, constV_i, constV_n, ↓st_p, ↓mk_, ↓vsz_int, ↓ty3, ↓zb3, ↓ty28, ↓sl28, ↓zb28, ↓ty84, ↓zb84, List.getD_cons_zero, List.getD_cons_succ, List.set_cons_zero, List.set_cons_succ, List.cons_append, List.nil_append, List.length_cons, List.length_nil, List.all_cons, List.all_nil, Bool.and_true, Bool.true_and, Bool.and_self, Bool.true_or, Nat.reduceAdd, Nat.reduceSub, Nat.reduceMul, Nat.zero_add, Int.toNat_natCast, evK_go, reduceIte, Nat.reduceEqDiff, Nat.reduceLT, and_self, true_and, and_true, Int.zero_add, Int.natCast_nonneg]
  (repeat refine OrH.l ?_)
  refine ⟨hout.2.2, ?_⟩
  (repeat refine OrH.l ?_)
  refine ⟨⟨by omega, by decide⟩, ?_⟩
  refine loopW (fun k : Nat => { tm := slots 38 [(0, .d (I .i64 (left : Int))), (7, .p 0 0), (8, .p 1 0), (20, .d (I .i64 (right : Int))), (21, .d (I .i64 k))], bx := [.d (.l ((outS (max left 1) l).map U)), .o 0 0 right], rw := [some ⟨1, (negI right k).map (I .i64)⟩] })
    (fun k => k ≤ right) (fun k => right - k) 0 (by simp) ?_ ?_
  · refine Wkn.of [0, 1] [some 0] ?_
    simp (implicitDefEqProofs := false) (dsimp := false) only [negI_zero, ↓vcells_l, ↓vcells_o, List.getD_cons_zero, List.getD_cons_succ, List.set_cons_zero, List.set_cons_succ, List.length_cons, List.length_nil, Bool.and_self, Nat.reduceAdd, Nat.reduceSub, Nat.reduceMul, Nat.zero_add, List.replicate, evK_go, reduceIte, Nat.reduceEqDiff, Nat.reduceLT, and_self, Int.zero_add, List.foldl_cons, List.foldl_nil, Int.cast_ofNat_Int, slots, wkL_nil, wkL_cons, wkB_nil, wkB_cons, wkR_nil, wkR_some, wkV_j, wkV_d, wkV_o, wkV_p, frz_d, oK_zs, pK_z, pK_s, reduceCtorEq]
  · intro k hk
    simp (implicitDefEqProofs := false) (dsimp := false) only [slots, ↓aw_cond, ↓aw_seq, ↓aw_reg, ↓Qseq_n, ↓ops_nil, ↓ops_cons, ↓eval_tmp, ↓put_some, ↓bK_b, ↓binE_i, ↓bi_lss, ↓op_bin, List.getD_cons_zero, List.getD_cons_succ, List.set_cons_zero, List.set_cons_succ, Nat.reduceAdd, Nat.reduceSub, Nat.reduceMul, List.replicate, evK_go, reduceIte, Nat.reduceEqDiff, Nat.reduceLT, List.foldl_cons, List.foldl_nil, Int.ofNat_lt]
    refine cdK_dec (fun h => ?_) (fun h => ?_)
    · have hlk := negI_len hk
      have hset := negI_set h
      simp (implicitDefEqProofs := false) (dsimp := false) only [h, ↓optK_some, ↓rwK_mk_, ↓nthK_H, ↓nthH_zero, ↓aw_seq, ↓aw_block, ↓aw_skip, ↓aw_reg, ↓Qseq_n, ↓Qblk_n, ↓ops_nil, ↓ops_cons, ↓eval_tmp, ↓eval_int, ↓put_some, ↓put_none, ↓iK_i, ↓dK_d, ↓binE_i, ↓bi_add, ↓in_i64, ↓ldK_p, ↓iaK_o, ↓op_move, ↓op_assign, ↓op_load, ↓op_bin, ↓op_ia, ↓op_store, ↓setRow_mk, ↓row_sz, ↓row_xs, ↓cells_c, ↓vcells_o, ↓one_i, ↓st_e, ↓ty3, ↓ty28, ↓sl28, List.getD_cons_zero, List.getD_cons_succ, List.set_cons_zero, List.set_cons_succ, List.length_cons, List.length_nil, List.all_cons, List.all_nil, Bool.true_and, Bool.and_self, Nat.reduceAdd, Nat.reduceSub, Nat.reduceMul, Nat.zero_add, Int.toNat_natCast, evK_go, reduceIte, decide_true, Nat.reduceEqDiff, Nat.reduceLT, and_self, true_and, Int.zero_add, Int.ofNat_lt, Int.natCast_nonneg]
      refine ⟨by omega, k + 1, by omega, by omega, ?_⟩
      refine Wkn.of [0, 1] [some 0] ?_
      simp (implicitDefEqProofs := false) (dsimp := false) only [← hset, List.map_set, ↓vcells_l, ↓vcells_o, List.getD_cons_zero, List.getD_cons_succ, List.set_cons_zero, List.set_cons_succ, List.length_cons, List.length_nil, Bool.and_self, Nat.reduceAdd, Nat.reduceSub, Nat.reduceMul, Nat.zero_add, List.replicate, evK_go, reduceIte, Nat.reduceEqDiff, Nat.reduceLT, and_self, Int.zero_add, List.foldl_cons, List.foldl_nil, Int.cast_ofNat_Int, Int.natCast_add, slots, wkL_nil, wkL_cons, wkB_nil, wkB_cons, wkR_nil, wkR_some, wkV_j, wkV_d, wkV_o, wkV_p, frz_d, oK_zs, pK_z, pK_s, reduceCtorEq]
    · obtain rfl : k = right := by omega
      simp (implicitDefEqProofs := false) (dsimp := false) only [negI_end, ↓aw_seq, ↓aw_block, ↓aw_exit, ↓aw_loop, ↓aw_reg, ↓Qseq_n, ↓Qseq_x, ↓Qblk_x, ↓ops_nil, ↓ops_cons, ↓eval_tmp, ↓eval_int, ↓put_some, ↓op_move, List.getD_cons_zero, List.set_cons_zero, List.set_cons_succ, Nat.reduceAdd, Nat.reduceSub, Nat.reduceMul, evK_go, reduceIte, decide_false, Nat.reduceEqDiff, Nat.reduceLT, Nat.lt_irrefl]
      refine loopW (fun i : Nat => { tm := slots 38 [(7, .p 0 0), (8, .p 1 0), (28, .d (I .i64 (left : Int))), (29, .d (I .i64 i))], bx := [.d (.l ((outS (max left 1) l).map U)), .o 0 0 k], rw := [some ⟨1, (kuhnK left k l i).map (I .i64)⟩] })
        (fun i => i ≤ left) (fun i => left - i) 0 (by simp) ?_ ?_
      · refine Wkn.of [0, 1] [some 0] ?_
        simp (implicitDefEqProofs := false) (dsimp := false) only [kuhnK, List.range_zero, List.foldl_nil, ↓vcells_l, ↓vcells_o, List.getD_cons_zero, List.getD_cons_succ, List.set_cons_zero, List.set_cons_succ, List.length_cons, List.length_nil, Bool.and_self, Nat.reduceAdd, Nat.reduceSub, Nat.reduceMul, Nat.zero_add, List.replicate, evK_go, reduceIte, Nat.reduceEqDiff, Nat.reduceLT, and_self, Int.zero_add, List.foldl_cons, List.foldl_nil, Int.cast_ofNat_Int, slots, wkL_nil, wkL_cons, wkB_nil, wkB_cons, wkR_nil, wkR_some, wkV_j, wkV_d, wkV_o, wkV_p, frz_d, oK_zs, pK_z, pK_s, reduceCtorEq]
      · intro i hi
        have hok := kuhnK_ok hs (by omega) i
        simp (implicitDefEqProofs := false) (dsimp := false) only [slots, ↓aw_cond, ↓aw_seq, ↓aw_reg, ↓Qseq_n, ↓ops_nil, ↓ops_cons, ↓eval_tmp, ↓put_some, ↓bK_b, ↓binE_i, ↓bi_lss, ↓op_bin, List.getD_cons_zero, List.getD_cons_succ, List.set_cons_zero, List.set_cons_succ, Nat.reduceAdd, Nat.reduceSub, Nat.reduceMul, List.replicate, evK_go, reduceIte, Nat.reduceEqDiff, Nat.reduceLT, List.foldl_cons, List.foldl_nil, Int.ofNat_lt]
        refine cdK_dec (fun h' => ?_) (fun h' => ?_)
        · simp (implicitDefEqProofs := false) (dsimp := false) only [ty93, zb93, cells_fp, ↓nthK_H, ↓nthH_zero, ↓aw_seq, ↓aw_block, ↓aw_skip, ↓aw_reg, ↓Qseq_n, ↓ops_nil, ↓ops_cons, ↓eval_tmp, ↓eval_int, ↓put_some, ↓put_none, ↓capsK_nil, ↓capsK_cons, ↓ldK_p, ↓op_move, ↓op_assign, ↓op_load, ↓op_func, ↓op_call, ↓op_alloc, ↓op_store, isD_d, isD_fp, ↓fnK_f, ↓call_H, ↓callK_H, ↓allT_nil, ↓allT_cons, ↓td_d, ↓boxK_d, ↓td_fp, ↓bq_nil, ↓bq_cons, ↓addBox_mk, ↓setBox_mk, ↓st_bx, ↓cells_c, ↓cells_l, ↓vcells_c, ↓one_i, ↓vone_d, constV_i, ↓st_p, ↓ty87, ↓zb87, List.getD_cons_zero, List.getD_cons_succ, List.set_cons_zero, List.set_cons_succ, List.cons_append, List.nil_append, List.map_cons, List.map_nil, List.length_cons, List.length_nil, List.all_cons, List.all_nil, Bool.and_true, Bool.true_and, Bool.and_self, Nat.reduceAdd, Nat.reduceSub, Nat.reduceMul, Nat.zero_add, evK_go, reduceIte, Nat.reduceEqDiff, Nat.reduceLT, and_self, true_and, and_true, Int.zero_add]
          have hun : unseen k 0 < k + 1 := by
            have := List.countP_le_length (p := fun j => !(0 : Nat).testBit j) (l := List.range k)
            simp (implicitDefEqProofs := false) (dsimp := false) only [List.length_range] at this
            unfold unseen; omega
          refine ⟨⟨rfl, rfl⟩, OrH.r (callM2 (fun gh => htry (k + 1) i ⟨kuhnK left k l i, 0⟩ [] [] gh h' hok hok.len (by show (0 : Nat) < 2 ^ 64; decide) hun (by simp)) rfl rfl rfl rfl rfl ?_)⟩
          rintro d bx' rw' gh' ⟨rfl, rfl, rfl, rfl⟩
          refine ⟨rfl, ?_⟩
          simp (implicitDefEqProofs := false) (dsimp := false) only [← kuhnK_succ, tB, tR, ↓aw_reg, ↓Qseq_n, ↓Qblk_n, ↓ops_nil, ↓ops_cons, ↓eval_tmp, ↓eval_int, ↓put_some, ↓binE_i, ↓bi_add, ↓in_i64, ↓op_move, ↓op_bin, ↓st_tm, ↓st_gh, List.getD_cons_zero, List.getD_cons_succ, List.set_cons_zero, List.set_cons_succ, List.append_nil, List.length_cons, List.length_nil, Nat.reduceAdd, Nat.reduceSub, Nat.reduceMul, Nat.zero_add, evK_go, reduceIte, Nat.reduceEqDiff, Nat.reduceLT, Int.zero_add, List.take_succ_cons, List.drop_succ_cons, List.take_nil, List.drop_nil]
          refine ⟨by omega, i + 1, by omega, by omega, ?_⟩
          refine Wkn.of [0, 1] [some 0] ?_
          simp (implicitDefEqProofs := false) (dsimp := false) only [↓vcells_l, ↓vcells_o, List.getD_cons_zero, List.getD_cons_succ, List.set_cons_zero, List.set_cons_succ, List.length_cons, List.length_nil, Bool.and_self, Nat.reduceAdd, Nat.reduceSub, Nat.reduceMul, Nat.zero_add, List.replicate, evK_go, reduceIte, Nat.reduceEqDiff, Nat.reduceLT, and_self, Int.zero_add, List.foldl_cons, List.foldl_nil, Int.cast_ofNat_Int, Int.natCast_add, slots, wkL_nil, wkL_cons, wkB_nil, wkB_cons, wkR_nil, wkR_some, wkV_j, wkV_d, wkV_o, wkV_p, frz_d, oK_zs, pK_z, pK_s, reduceCtorEq]
        · obtain rfl : i = left := by omega
          simp (implicitDefEqProofs := false) (dsimp := false) only [↓optK_some, ↓rwK_mk_, ↓nthK_H, ↓nthH_zero, ↓aw_seq, ↓aw_exit, ↓aw_ret, ↓aw_reg, ↓Qseq_n, ↓Qseq_x, ↓Qblk_x, ↓ops_nil, ↓ops_cons, ↓eval_tmp, ↓put_some, ↓ldK_p, ↓op_assign, ↓op_load, ↓row_sz, ↓row_xs, ↓vcells_o, ↓Qrow_r, ↓rowK_o, ↓ty28, List.getD_cons_zero, List.getD_cons_succ, List.set_cons_zero, List.set_cons_succ, Bool.true_and, Nat.reduceAdd, Nat.reduceSub, Nat.reduceMul, evK_go, reduceIte, decide_false, Nat.reduceEqDiff, Nat.reduceLT, true_and, Nat.lt_irrefl]
          have hok' : HasOK k i l (kuhnK i k l i) := hok
          exact List.take_of_length_le (by simp [hok'.len])
theorem pairs_call (left right : Nat) (l : List (Nat × Nat)) (pure : Bool) (σ : St) (dst : Option Tmp) (K : St → Prop) : CallH Try.prog 68 [I .i64 (left : Int), I .i64 (right : Int), .l (l.map lnN)] pure σ dst (.mk : Hid K) = OrH ((left ≤ 8 ∧ right ≤ 8 ∧ l.length < 2 ^ 62 ∧ Sides left right l) ∧ (pure || Res.flat (.row 1 ((kuhn left right l).map (I .i64)))) = true ∧ evK ((σ.addRow ⟨1, (kuhn left right l).map (I .i64)⟩).put dst (.o σ.rw.length 0 (List.length ((kuhn left right l).map (I .i64))))) (.mk : Hid K)) (.mk : Hid (CallH Try.prog 68 [I .i64 (left : Int), I .i64 (right : Int), .l (l.map lnN)] pure σ dst (.mk : Hid K))) := CallH.eqR (fun h => pairs_spec left right l h) pure σ dst K
theorem pairs_callD (left right : Nat) (l : List (Nat × Nat)) (pure : Bool) (σ : St) (dst : Option Tmp) (K : St → Prop) : CallH Try.prog 68 [I .i64 (left : Int), I .i64 (right : Int), .l (l.map lnN)] pure σ dst (.mk : Hid K) = OrH ((left ≤ 8 ∧ right ≤ 8 ∧ l.length < 2 ^ 62 ∧ Sides left right l) ∧ (pure || D.flat (.l ((kuhn left right l).map (I .i64)))) = true ∧ evK (σ.put dst (.d (.l ((kuhn left right l).map (I .i64))))) (.mk : Hid K)) (.mk : Hid (CallH Try.prog 68 [I .i64 (left : Int), I .i64 (right : Int), .l (l.map lnN)] pure σ dst (.mk : Hid K))) := CallH.eq (fun h => ((fun h => pairs_spec left right l h) h).data) pure σ dst K
theorem pairs_callDQ (left right : Nat) (l : List (Nat × Nat)) (pure : Bool) (C : V → Prop) : CallQ Try.prog 68 [I .i64 (left : Int), I .i64 (right : Int), .l (l.map lnN)] pure (.mk : Hid C) = OrH ((left ≤ 8 ∧ right ≤ 8 ∧ l.length < 2 ^ 62 ∧ Sides left right l) ∧ (pure || D.flat (.l ((kuhn left right l).map (I .i64)))) = true ∧ evK (V.d (.l ((kuhn left right l).map (I .i64)))) (.mk : Hid C)) (.mk : Hid (CallQ Try.prog 68 [I .i64 (left : Int), I .i64 (right : Int), .l (l.map lnN)] pure (.mk : Hid C))) := CallQ.eq (fun h => ((fun h => pairs_spec left right l h) h).data) pure C
end Go.Proofs

namespace Go.Proofs
open Go.Aw
set_option linter.unusedSimpArgs false
set_option maxRecDepth 10000
def sfL : List (Int × Int) := [(1, 2), (2, 1), (0, 1)]
theorem sf1_spec  : FnD Try.prog 43 [I .i64 3, .l [.s [I .i64 1, I .i64 2], .s [I .i64 2, I .i64 1], .s [I .i64 0, I .i64 1]]] (.t [.l [I .i64 0, I .i64 1, I .i64 1], erD 0]) := by
  have h := spartsS_spec 3 sfL (by decide)
  rw [show strongR 3 sfL = [0, 1, 1] by decide +kernel, show chk 3 sfL = 0 by decide +kernel] at h
  exact h
theorem sf1_call  (pure : Bool) (σ : St) (dst : Option Tmp) (K : St → Prop) : CallH Try.prog 43 [I .i64 3, .l [.s [I .i64 1, I .i64 2], .s [I .i64 2, I .i64 1], .s [I .i64 0, I .i64 1]]] pure σ dst (.mk : Hid K) = OrH ((pure || D.flat (.t [.l [I .i64 0, I .i64 1, I .i64 1], erD 0])) = true ∧ evK (σ.put dst (.d (.t [.l [I .i64 0, I .i64 1, I .i64 1], erD 0]))) (.mk : Hid K)) (.mk : Hid (CallH Try.prog 43 [I .i64 3, .l [.s [I .i64 1, I .i64 2], .s [I .i64 2, I .i64 1], .s [I .i64 0, I .i64 1]]] pure σ dst (.mk : Hid K))) := CallH.eq0 (sf1_spec ) pure σ dst K
theorem sf1_callQ  (pure : Bool) (C : V → Prop) : CallQ Try.prog 43 [I .i64 3, .l [.s [I .i64 1, I .i64 2], .s [I .i64 2, I .i64 1], .s [I .i64 0, I .i64 1]]] pure (.mk : Hid C) = OrH ((pure || D.flat (.t [.l [I .i64 0, I .i64 1, I .i64 1], erD 0])) = true ∧ evK (V.d (.t [.l [I .i64 0, I .i64 1, I .i64 1], erD 0])) (.mk : Hid C)) (.mk : Hid (CallQ Try.prog 43 [I .i64 3, .l [.s [I .i64 1, I .i64 2], .s [I .i64 2, I .i64 1], .s [I .i64 0, I .i64 1]]] pure (.mk : Hid C))) := CallQ.eq0 (sf1_spec ) pure C
theorem sf2_spec  : FnD Try.prog 59 [I .i64 3, .l [.s [I .i64 1, I .i64 2], .s [I .i64 2, I .i64 1], .s [I .i64 0, I .i64 1]]] (.t [.l [I .i64 0, I .i64 1, I .i64 1], .l [.s [I .i64 0, I .i64 1]], erD 0]) := by
  have h := fold_spec 3 sfL (by decide)
  rw [show foldO 3 sfL = [0, 1, 1] by decide +kernel, show foldL 3 sfL = [(0, 1)] by decide +kernel, show chk 3 sfL = 0 by decide +kernel] at h
  exact h
theorem sf2_call  (pure : Bool) (σ : St) (dst : Option Tmp) (K : St → Prop) : CallH Try.prog 59 [I .i64 3, .l [.s [I .i64 1, I .i64 2], .s [I .i64 2, I .i64 1], .s [I .i64 0, I .i64 1]]] pure σ dst (.mk : Hid K) = OrH ((pure || D.flat (.t [.l [I .i64 0, I .i64 1, I .i64 1], .l [.s [I .i64 0, I .i64 1]], erD 0])) = true ∧ evK (σ.put dst (.d (.t [.l [I .i64 0, I .i64 1, I .i64 1], .l [.s [I .i64 0, I .i64 1]], erD 0]))) (.mk : Hid K)) (.mk : Hid (CallH Try.prog 59 [I .i64 3, .l [.s [I .i64 1, I .i64 2], .s [I .i64 2, I .i64 1], .s [I .i64 0, I .i64 1]]] pure σ dst (.mk : Hid K))) := CallH.eq0 (sf2_spec ) pure σ dst K
theorem sf2_callQ  (pure : Bool) (C : V → Prop) : CallQ Try.prog 59 [I .i64 3, .l [.s [I .i64 1, I .i64 2], .s [I .i64 2, I .i64 1], .s [I .i64 0, I .i64 1]]] pure (.mk : Hid C) = OrH ((pure || D.flat (.t [.l [I .i64 0, I .i64 1, I .i64 1], .l [.s [I .i64 0, I .i64 1]], erD 0])) = true ∧ evK (V.d (.t [.l [I .i64 0, I .i64 1, I .i64 1], .l [.s [I .i64 0, I .i64 1]], erD 0])) (.mk : Hid C)) (.mk : Hid (CallQ Try.prog 59 [I .i64 3, .l [.s [I .i64 1, I .i64 2], .s [I .i64 2, I .i64 1], .s [I .i64 0, I .i64 1]]] pure (.mk : Hid C))) := CallQ.eq0 (sf2_spec ) pure C
theorem sf3_spec  : FnD Try.prog 44 [.l [I .i64 0, I .i64 1, I .i64 1], .l [I .i64 0, I .i64 1, I .i64 1]] (Bo true) := by
  have h := ints_spec [0, 1, 1] [0, 1, 1] (by decide)
  exact h
theorem sf3_call  (pure : Bool) (σ : St) (dst : Option Tmp) (K : St → Prop) : CallH Try.prog 44 [.l [I .i64 0, I .i64 1, I .i64 1], .l [I .i64 0, I .i64 1, I .i64 1]] pure σ dst (.mk : Hid K) = OrH ((pure || D.flat (Bo true)) = true ∧ evK (σ.put dst (.d (Bo true))) (.mk : Hid K)) (.mk : Hid (CallH Try.prog 44 [.l [I .i64 0, I .i64 1, I .i64 1], .l [I .i64 0, I .i64 1, I .i64 1]] pure σ dst (.mk : Hid K))) := CallH.eq0 (sf3_spec ) pure σ dst K
theorem sf3_callQ  (pure : Bool) (C : V → Prop) : CallQ Try.prog 44 [.l [I .i64 0, I .i64 1, I .i64 1], .l [I .i64 0, I .i64 1, I .i64 1]] pure (.mk : Hid C) = OrH ((pure || D.flat (Bo true)) = true ∧ evK (V.d (Bo true)) (.mk : Hid C)) (.mk : Hid (CallQ Try.prog 44 [.l [I .i64 0, I .i64 1, I .i64 1], .l [I .i64 0, I .i64 1, I .i64 1]] pure (.mk : Hid C))) := CallQ.eq0 (sf3_spec ) pure C
theorem sf4_spec  : FnD Try.prog 61 [.l [.s [I .i64 0, I .i64 1]], .l [.s [I .i64 0, I .i64 1]]] (Bo true) := by
  have h := elines_spec [(0, 1)] [(0, 1)] (by decide)
  exact h
theorem sf4_call  (pure : Bool) (σ : St) (dst : Option Tmp) (K : St → Prop) : CallH Try.prog 61 [.l [.s [I .i64 0, I .i64 1]], .l [.s [I .i64 0, I .i64 1]]] pure σ dst (.mk : Hid K) = OrH ((pure || D.flat (Bo true)) = true ∧ evK (σ.put dst (.d (Bo true))) (.mk : Hid K)) (.mk : Hid (CallH Try.prog 61 [.l [.s [I .i64 0, I .i64 1]], .l [.s [I .i64 0, I .i64 1]]] pure σ dst (.mk : Hid K))) := CallH.eq0 (sf4_spec ) pure σ dst K
theorem sf4_callQ  (pure : Bool) (C : V → Prop) : CallQ Try.prog 61 [.l [.s [I .i64 0, I .i64 1]], .l [.s [I .i64 0, I .i64 1]]] pure (.mk : Hid C) = OrH ((pure || D.flat (Bo true)) = true ∧ evK (V.d (Bo true)) (.mk : Hid C)) (.mk : Hid (CallQ Try.prog 61 [.l [.s [I .i64 0, I .i64 1]], .l [.s [I .i64 0, I .i64 1]]] pure (.mk : Hid C))) := CallQ.eq0 (sf4_spec ) pure C
theorem sfact_spec  : FnD Try.prog 42 [] (Bo true) := by
  refine FnD.go Try.func42 rfl rfl Try.results42 Try.ntmps42 ?_
  simp (implicitDefEqProofs := false) (dsimp := false) only [↓aw_seq, ↓aw_reg, ↓Qseq_n, ↓ops_nil, ↓ops_cons, ↓eval_tmp, ↓eval_int, ↓eval_bool, ↓eval_func, ↓put_some, ↓dK_d, ↓op_move, ↓op_assign, ↓op_build, ↓op_call, isD_d, ↓fnK_f, ↓call_H, ↓callK_H, ↓allT_nil, ↓allT_cons, ↓allD_nil, ↓allD_cons, ↓td_d, ↓cells_c, ↓cells_s, ↓one_i, ↓bs_, ↓op_bs, ↓bsL_f, ↓stored_mk, ↓sl_nil, ↓sl_cons, ↓sT_assign, ↓sT_build, ↓sT_bs, ↓vsz_agg, ↓inO_3, ↓fm_nil, ↓fm_cons, ↓sl22, ↓ty35, ↓zb35, ↓bd35, List.getD_cons_zero, List.getD_cons_succ, List.set_cons_zero, List.set_cons_succ, List.cons_append, List.nil_append, List.append_nil, List.map_cons, List.map_nil, List.length_cons, List.length_nil, List.all_cons, List.all_nil, Bool.true_and, Bool.and_self, Bool.or_false, Nat.reduceAdd, Nat.reduceSub, Nat.reduceMul, Nat.zero_add, List.replicate, evK_go, reduceIte, Nat.reduceEqDiff, Nat.reduceLT, and_self, true_and, Int.zero_add]
  simp (implicitDefEqProofs := false) (dsimp := false) only [sf1_call, sf2_call, sf3_call, sf4_call, eval_nilI, ↓er_eql, ↓cdK_true, ↓gdK_t, ↓gval_mk, ↓gvL_zero, ↓gvL_succ, ↓nthK_H, ↓nthH_zero, ↓nthH_succ, ↓aw_seq, ↓aw_ret, ↓aw_reg, ↓Qseq_n, ↓Qret_r, ↓ops_nil, ↓ops_cons, ↓ops_guard, ↓eval_tmp, ↓eval_int, ↓eval_func, ↓put_some, ↓bK_b, ↓dK_d, ↓tK_t, ↓op_move, ↓op_assign, ↓op_pick, ↓op_bin, ↓op_extract, ↓op_build, ↓op_call, ↓orH_T, isD_d, ↓fnK_f, ↓call_H, ↓callK_H, ↓allT_nil, ↓allT_cons, ↓allD_nil, ↓allD_cons, ↓td_d, ↓ret_1, ↓st_tm, ↓cells_c, ↓cells_s, ↓one_i, ↓bs_, ↓op_bs, ↓bsL_f, ↓stored_mk, ↓sl_nil, ↓sl_cons, ↓sT_move, ↓sT_assign, ↓sT_pick, ↓sT_bin, ↓sT_build, ↓sT_bs, ↓sT_call, ↓vsz_int, ↓vsz_agg, ↓inO_1, ↓inO_3, ↓fm_nil, ↓fm_cons, ↓ty3, ↓zb3, ↓sl22, ↓sl28, ↓ty35, ↓zb35, ↓bd35, List.getD_cons_zero, List.getD_cons_succ, List.set_cons_zero, List.set_cons_succ, List.cons_append, List.nil_append, List.append_nil, List.map_cons, List.map_nil, List.length_cons, List.length_nil, List.all_cons, List.all_nil, Bool.and_true, Bool.true_and, Bool.and_self, Bool.true_or, Bool.or_false, Nat.reduceAdd, Nat.reduceSub, Nat.reduceMul, Nat.zero_add, evK_go, reduceIte, decide_true, Nat.reduceEqDiff, Nat.reduceLT, and_self, true_and, and_true, Int.zero_add]
  exact ⟨⟨rfl, by decide⟩, OrH.l (OrH.l (OrH.l (OrH.l ⟨by decide, OrH.l (OrH.l ⟨by decide, OrH.l (OrH.l ⟨rfl, by decide⟩)⟩)⟩)))⟩
theorem sfact_call  (pure : Bool) (σ : St) (dst : Option Tmp) (K : St → Prop) : CallH Try.prog 42 [] pure σ dst (.mk : Hid K) = OrH ((pure || D.flat (Bo true)) = true ∧ evK (σ.put dst (.d (Bo true))) (.mk : Hid K)) (.mk : Hid (CallH Try.prog 42 [] pure σ dst (.mk : Hid K))) := CallH.eq0 (sfact_spec ) pure σ dst K
theorem sfact_callQ  (pure : Bool) (C : V → Prop) : CallQ Try.prog 42 [] pure (.mk : Hid C) = OrH ((pure || D.flat (Bo true)) = true ∧ evK (V.d (Bo true)) (.mk : Hid C)) (.mk : Hid (CallQ Try.prog 42 [] pure (.mk : Hid C))) := CallQ.eq0 (sfact_spec ) pure C
end Go.Proofs

namespace Go.Proofs
open Go.Aw Go.ChangeShapes Go.WideShapes Go.ChangeAt Go.RowKit Go.Deep
set_option linter.unusedVariables false
set_option maxRecDepth 100000
theorem tkids : Kids Try.prog (· < Try.prog.types.size) := kids_rows (by kernel_rfl) (by kernel_rfl)
theorem tfull : ∀ t e, t < Try.prog.types.size → Try.prog.underlying t = some (.slice e) → 0 < Try.prog.cellsOf e := slices_full_of _ (by kernel_rfl)
theorem tu3 : Try.prog.underlying 3 = some (.int .i64) := by kernel_rfl
theorem tu4 : Try.prog.underlying 4 = some .bool := by kernel_rfl
theorem tu22 : Try.prog.underlying 22 = some (.slice 35) := by kernel_rfl
theorem tc35 : Try.prog.cellsOf 35 = 2 := by kernel_rfl
theorem tc3 : Try.prog.cellsOf 3 = 1 := by kernel_rfl
theorem tb35 : Try.prog.bytesOf 35 = 16 := by kernel_rfl
section
variable {H : Type} {enc : TypeId × Value → H} {P : Program} {w w' : World} {base : Nat} {spare : Nat → Bool} {held : Bool}
theorem trodAll_later : ∀ {ts : List TypeId} {vs : List Value} {ds : List (DataW H)} {ps : List MemPlace}, DataW.TrodAll enc P w base spare held ts vs ds ps → (∀ p ∈ ps, w.sameAt w' p) → DataW.TrodAll enc P w' base spare held ts vs ds ps
  | [], [], [], _, h, _ => h
  | _ :: _, _ :: _, _ :: _, _, ⟨p, q, ⟨n, h1⟩, h2, e⟩, hs => ⟨p, q, ⟨n, DataW.trod_carry n _ _ _ h1 (fun x hx => hs x (by rw [e]; exact List.mem_append_left _ hx))⟩, trodAll_later h2 (fun x hx => hs x (by rw [e]; exact List.mem_append_right _ hx)), e⟩
end
/-- A law's end: true, and all as it was. -/
theorem law_post {H : Type} {enc : TypeId × Value → H} {fn : Func} {s : ChangeSpec} {W W' : World} {args : Array Value} {ds gs : List (DataW H)} {before : List MemPlace} (hv : s.vars = []) (hrt : fn.resultTypes = #[4])
    (hpt : ∀ t ∈ fn.params.toList, t < Try.prog.types.size) (hW : DataW.Whole enc Try.prog fn.params.toList s.vars false W args.toList ds gs before)
    (hs : (s.fn H (ds ++ gs)).results = [.lit (.bool true)] ∧ (s.fn H (ds ++ gs)).args = ds ∧ (s.fn H (ds ++ gs)).vars = []) (hB : Below W.heap.size W W') : s.post enc Try.prog fn false true false false W args (.bool true) W' := by
  have hW' := hW
  obtain ⟨p, q, hA, hV, rfl, hfz, hnd⟩ := hW
  have hlt := hW'.lt
  rw [hv] at hV
  obtain ⟨rfl, rfl⟩ := trodVars_none hV
  obtain ⟨h1, h2, h3⟩ := hs
  refine ⟨ds, [], p ++ [], [], p, [], hW', ?_, ?_, ?_, hB.frame _, fun h => by cases h⟩
  · rw [h1, hrt]
    exact trodAll_mk1 (shut_bool tu4 true)
  · rw [h2]
    refine DataW.TrodAll.respare tkids tfull hpt (trodAll_later hA fun x hx => hB.same (hlt x (List.mem_append_left _ hx))) fun x hx => ?_
    simpa using hlt x (List.mem_append_left _ hx)
  · rw [h3, hv]; rfl
/-- What lies there already. -/
abbrev Old (W : World) (b : Nat) : Prop := b < W.heap.size
section
variable {H : Type} {enc : TypeId × Value → H} {W : World} {held : Bool}
theorem arg_int {v : Value} {d : DataW H} {p : List MemPlace} {r : Reach} {b0 : Nat} (hval : Value.okWide Try.prog W r b0 3 v) (h : DataW.Trod enc Try.prog W 0 (fun _ => true) held 3 v d p) : ∃ n : Int, RelD W (Old W) (I .i64 n) v ∧ (-9223372036854775808 ≤ n ∧ n ≤ 9223372036854775807) := by
  obtain ⟨n, rfl, _, _, hw⟩ := open_int tu3 hval h
  exact ⟨n, .c _, by simpa [Lit.wf, IntKind.min, IntKind.max, IntKind.signed, IntKind.bits] using hw⟩
theorem arg_lines {v : Value} {d : DataW H} {p : List MemPlace} {r : Reach} {b0 : Nat} (hval : Value.okWide Try.prog W r b0 22 v) (h : DataW.Trod enc Try.prog W 0 (fun _ => true) held 22 v d p) :
    ∃ l : List (Int × Int), RelD W (Old W) (.l (l.map lnD)) v ∧ ((d = .nil ∧ l = []) ∨ ∃ elems spare, d = .slice elems spare ∧ elems.length = l.length) := by
  obtain ⟨a0, len, cap, rfl⟩ := okWide_slice tu22 hval
  obtain ⟨fuel, hf⟩ := h
  rcases open_slice_pairs tu22 Try.underlying35 tc35 rfl rfl tc3 tc3 hf with ⟨hcs, hx⟩ | ⟨a, len', cap', m, n, V0, V1, D0, D1, P0, P1, hcs, _, hl, hm, hmm, hx, hc⟩
  · simp [Value.cells] at hcs
    obtain ⟨rfl, rfl, rfl⟩ := hcs
    simp (implicitDefEqProofs := false) (dsimp := false) only [Prod.mk.injEq] at hx
    exact ⟨[], .nl none 0, .inl ⟨hx.1, rfl⟩⟩
  · simp [Value.cells] at hcs
    obtain ⟨rfl, rfl, rfl⟩ := hcs
    simp (implicitDefEqProofs := false) (dsimp := false) only [Prod.mk.injEq] at hx
    simp (implicitDefEqProofs := false) (dsimp := false) only [if_true] at hmm
    subst hmm
    have hint : ∀ i, ∃ q : Int × Int, i < len → W.cell? (a.add (i * 2)) = some (.int .i64 q.1) ∧ W.cell? (a.add (i * 2 + 1)) = some (.int .i64 q.2) := by
      intro i
      by_cases hi : i < len
      · obtain ⟨h1, h2, h3, h4⟩ := hc i (by omega)
        obtain ⟨x, e1, _, _⟩ := DataW.trod_int tu3 h3
        obtain ⟨y, e2, _, _⟩ := DataW.trod_int tu3 h4
        simp (implicitDefEqProofs := false) (dsimp := false) only [List.cons.injEq, and_true] at e1 e2
        exact ⟨(x, y), fun _ => ⟨by rw [h1, e1], by rw [h2, e2]⟩⟩
      · exact ⟨(0, 0), fun h => absurd h hi⟩
    obtain ⟨Q, hQ⟩ : ∃ Q : Nat → Int × Int, ∀ i, i < len → W.cell? (a.add (i * 2)) = some (.int .i64 (Q i).1) ∧ W.cell? (a.add (i * 2 + 1)) = some (.int .i64 (Q i).2) := ⟨fun i => Classical.choose (hint i), fun i => Classical.choose_spec (hint i)⟩
    refine ⟨(List.range len).map Q, ?_, .inr ⟨_, _, hx.1, by simp⟩⟩
    by_cases h0 : len = 0
    · subst h0; exact .nl _ _
    have hxs : ∀ (i : Nat) (x : D), (((List.range len).map Q).map lnD)[i]? = some x → i < len ∧ x = lnD (Q i) := by
      intro i x hx
      rw [List.getElem?_map, List.getElem?_map] at hx
      by_cases hi : i < len
      · rw [List.getElem?_range hi] at hx
        simp at hx
        exact ⟨hi, hx.symm⟩
      · rw [List.getElem?_eq_none (by simp; omega)] at hx; cases hx
    have hlen : len = (((List.range len).map Q).map lnD).length := by simp
    have hrel := RelD.l (w := W) (N := Old W) (((List.range len).map Q).map lnD) a _ 2 (fun i k => if k = 0 then .int .i64 (Q i).1 else .int .i64 (Q i).2) (by rw [← hlen]; exact hl) ?_ ?_ ?_ ?_
    · rw [← hlen] at hrel
      exact hrel
    · have := (hQ 0 (by omega)).1
      unfold World.cell? at this
      split at this
      · rename_i C et fr hb
        have hb' := (Array.getElem?_eq_some_iff.1 hb).1
        rw [add_block] at hb'
        exact hb'
      · cases this
    · intro i x hx
      obtain ⟨_, rfl⟩ := hxs i x hx
      rfl
    · intro i k x y hx hy
      obtain ⟨hi, rfl⟩ := hxs i x hx
      match k, hy with
      | 0, hy => exact (hQ i hi).1
      | 1, hy => exact (hQ i hi).2
    · intro i k x y hx hy
      obtain ⟨hi, rfl⟩ := hxs i x hx
      match k, hy with
      | 0, hy => cases hy; exact .c _
      | 1, hy => cases hy; exact .c _
theorem arg_line {v : Value} {d : DataW H} {p : List MemPlace} {r : Reach} {b0 : Nat} (hval : Value.okWide Try.prog W r b0 35 v) (h : DataW.Trod enc Try.prog W 0 (fun _ => true) held 35 v d p) :
    ∃ q : Int × Int, RelD W (Old W) (lnD q) v ∧ True := by
  obtain ⟨v0, v1, y0, y1, n, rfl, _, _, h3, h4⟩ := Joins.open_agg2 Try.underlying35 (by kernel_rfl) tc35 hval h
  obtain ⟨x, e1, _, _⟩ := DataW.trod_int tu3 h3
  obtain ⟨y, e2, _, _⟩ := DataW.trod_int tu3 h4
  simp (implicitDefEqProofs := false) (dsimp := false) only [List.cons.injEq, and_true] at e1 e2
  subst e1
  subst e2
  refine ⟨(x, y), ?_, trivial⟩
  refine RelD.s _ _ (by rfl) fun k z u hz hu => ?_
  match k, hz, hu with
  | 0, hz, hu => cases hz; cases hu; exact .c _
  | 1, hz, hu => cases hz; cases hu; exact .c _
theorem lines_len {ts : List TypeId} {ds : List (DataW H)} {j : Nat} {l : List (Int × Int)} (h : (DataW.weightsEach Try.prog ts ds).all (· ≤ reachBytes) = true) (ht : ts[j]? = some 22) {d : DataW H} (hd : ds[j]? = some d)
    (hl : (d = .nil ∧ l = []) ∨ ∃ elems spare, d = .slice elems spare ∧ elems.length = l.length) : l.length < 2 ^ 43 := by
  rcases hl with ⟨_, rfl⟩ | ⟨elems, spare, rfl, e⟩
  · simp
  · have := sized_slice h ht hd tu22
    rw [tb35] at this
    have := reachBytes_lt
    omega
end
theorem argsOK_nil (w : World) (N : Nat → Prop) : ArgsOK w N [] [] := ⟨rfl, fun k d v h => by simp at h⟩
theorem argsOK_cons {w : World} {N : Nat → Prop} {d : D} {ds : List D} {v : Value} {vs : List Value} (h : RelD w N d v) (hs : ArgsOK w N ds vs) : ArgsOK w N (d :: ds) (v :: vs) :=
  ⟨by simp [hs.1], fun k d' v' hd hv => by
    cases k with
    | zero => simp at hd hv; subst hd; subst hv; exact h
    | succ k => exact hs.2 k d' v' (by simpa using hd) (by simpa using hv)⟩
/-- A law's call. -/
theorem law_calls {f : FuncId} {ds : List D} (h : FnD Try.prog f ds (Bo true)) (W : World) (vs : List Value) (ha : ArgsOK W (Old W) ds vs) : Calls Try.prog f vs.toArray W fun e W' => e = .returned (.bool true) ∧ Below W.heap.size W W' := by
  have := callsIn_wide.1 (h.2 W (Old W) vs (fun b h => h) ha)
  refine this.mono fun e W' ⟨r, v, hr, he, hB, hres⟩ => ?_
  subst hr
  have hv : v = .bool true := relD_c hres
  exact ⟨by rw [he, hv], hB⟩
end Go.Proofs

namespace Go.Proofs
open Go.Aw
set_option linter.unusedSimpArgs false
set_option maxRecDepth 10000
def flipI (p : Int × Int) : Int × Int := (p.2, p.1)
/-- Lines from the last one on, each the other way. -/
def backI (l : List (Int × Int)) : List (Int × Int) := l.reverse.map flipI
theorem rev_getD {l : List (Int × Int)} {k : Nat} (h : k < l.length) : l.reverse.getD k default = l.getD (l.length - 1 - k) default := by
  rw [List.getD_eq_getElem?_getD, List.getD_eq_getElem?_getD, List.getElem?_reverse h]
theorem back_spec (l : List (Int × Int)) (hpre : l.length < 2 ^ 43) : FnR Try.prog 35 [.l (l.map lnD)] 2 ((backI l).map lnD) := by
  refine FnR.go Try.func35 rfl rfl Try.results35 Try.ntmps35 ?_
  simp (implicitDefEqProofs := false) (dsimp := false) only [↓aw_seq, ↓aw_block, ↓aw_loop, ↓aw_reg, ↓Qseq_n, ↓ops_nil, ↓ops_cons, ↓eval_tmp, ↓eval_int, ↓eval_nil, ↓put_some, ↓lenK_l, ↓binE_i, ↓bi_sub, ↓in_i64, ↓op_move, ↓op_assign, ↓op_bin, ↓op_len, ↓sl22, List.getD_cons_zero, List.getD_cons_succ, List.set_cons_zero, List.set_cons_succ, List.cons_append, List.nil_append, List.map_cons, List.map_nil, List.length_cons, List.length_nil, List.length_map, Nat.reduceAdd, Nat.reduceSub, Nat.reduceMul, Nat.zero_add, List.replicate, evK_go, reduceIte, Nat.reduceEqDiff, Nat.reduceLT, Int.zero_add]
  refine ⟨by omega, ?_⟩
  refine loopW (fun k : Nat => { tm := slots 27 [(0, .d (.l (l.map lnD))), (3, .o 0 0 k), (4, .d (I .i64 ((l.length : Int) - 1 - k)))], bx := [], rw := [some ⟨2, ((l.reverse.take k).map flipI).map lnD⟩] })
    (fun k => k ≤ l.length) (fun k => l.length - k) 0 (by simp) ?_ ?_
  · refine Wkn.of [] [none] ?_
    simp (implicitDefEqProofs := false) (dsimp := false) only [↓row_xs, List.set_cons_zero, List.set_cons_succ, List.map_nil, Bool.and_true, Bool.true_and, Bool.and_self, Nat.reduceAdd, Nat.reduceSub, Nat.reduceMul, List.replicate, evK_go, reduceIte, Nat.reduceEqDiff, Nat.reduceLT, and_self, true_and, and_true, List.take_zero, List.foldl_cons, List.foldl_nil, Int.cast_ofNat_Int, slots, wkL_nil, wkL_cons, wkB_nil, wkR_nil, wkR_new, wkV_j, wkV_d, nlK_nl, wkV_o, frz_d, oK_zn, dc_eq, reduceCtorEq]
    simp
  · intro k hk
    simp (implicitDefEqProofs := false) (dsimp := false) only [slots, ↓aw_cond, ↓aw_seq, ↓aw_reg, ↓Qseq_n, ↓ops_nil, ↓ops_cons, ↓eval_tmp, ↓eval_int, ↓put_some, ↓bK_b, ↓binE_i, ↓bi_geq, ↓op_move, ↓op_bin, List.getD_cons_zero, List.getD_cons_succ, List.set_cons_zero, List.set_cons_succ, Nat.reduceAdd, Nat.reduceSub, Nat.reduceMul, List.replicate, evK_go, reduceIte, Nat.reduceEqDiff, Nat.reduceLT, List.foldl_cons, List.foldl_nil]
    refine cdK_dec (fun h => ?_) (fun h => ?_)
    · have hkl : k < l.length := by omega
      have e : ((l.length : Int) - 1 - k).toNat = l.length - 1 - k := by omega
      have h1 : l.length - 1 - k < l.length := by omega
      have h2 : (0 : Int) ≤ (l.length : Int) - 1 - k := by omega
      simp (implicitDefEqProofs := false) (dsimp := false) only [e, h1, h2, lnD_cells, ↓optK_some, ↓rwK_mk_, ↓atK_H, ↓atH_map, ↓aw_seq, ↓aw_block, ↓aw_skip, ↓aw_reg, ↓aw_draw, ↓Qseq_n, ↓Qblk_n, ↓ops_nil, ↓ops_cons, ↓eval_tmp, ↓eval_int, ↓put_some, ↓iK_i, ↓dK_d, ↓ev_move, ↓ev_load, ↓ev_fa, ↓ev_ia, ↓ev_build, ↓binE_i, ↓bi_sub, ↓in_i64, ↓ldK_q, ↓faK_q, ↓iaK_l, ↓op_move, ↓op_assign, ↓op_bin, ↓op_append, ↓allD_nil, ↓allD_cons, ↓draw_H, ↓h_cons, ↓ldH_t, ↓ldH_n, ↓q_bs, ↓q_move, ↓q_load, ↓q_fa, ↓q_ia, ↓q_build, ↓il_move, ↓il_load, ↓il_fa, ↓il_ia, ↓il_build, ↓il_bs, ↓il_append, ↓app_mk, ↓row_sz, ↓row_xs, kill_d, kill_j, kill_o, ↓cells_c, ↓cells_s, ↓one_i, ↓ap_, ↓ap_o, ↓src_l, ↓bs_, ↓vsz_agg, ↓inO_1, ↓fm_nil, ↓fm_cons, ↓hd_cons, ↓ty3, ↓sl22, ↓ty35, ↓zb35, ↓fd35_0, ↓fd35_1, ↓bd35, List.getD_cons_zero, List.getD_cons_succ, List.set_cons_zero, List.set_cons_succ, List.cons_append, List.nil_append, List.map_cons, List.map_nil, List.length_cons, List.length_nil, List.length_map, List.all_cons, List.all_nil, Bool.true_and, Bool.and_self, Nat.reduceAdd, Nat.reduceSub, Nat.reduceMul, Nat.zero_add, evK_go, reduceIte, decide_true, Nat.reduceEqDiff, Nat.reduceLT, and_self, true_and, Int.zero_add, List.drop_zero, List.drop_succ_cons]
      refine OrH.l ⟨DrawH.of follows_mixed (by kernel_rfl), ⟨rfl, by decide⟩, rfl, ⟨fun _ => trivial, by simp; omega, by omega, by omega⟩, by omega, k + 1, by omega, by omega, ?_⟩
      refine Wkn.of [] [some 0] ?_
      have hkr : k < l.reverse.length := by simpa using hkl
      have e5 : (l.length : Int) - 1 - k - 1 = (l.length : Int) - 1 - ((k + 1 : Nat) : Int) := by omega
      simp (implicitDefEqProofs := false) (dsimp := false) only [e5, take_succ_getD hkr, rev_getD hkl, List.map_append, lnD, flipI, List.getD_cons_zero, List.set_cons_zero, List.set_cons_succ, List.map_cons, List.map_nil, Bool.and_self, Nat.reduceAdd, Nat.reduceSub, Nat.reduceMul, List.replicate, evK_go, reduceIte, Nat.reduceEqDiff, Nat.reduceLT, and_self, List.foldl_cons, List.foldl_nil, Int.cast_ofNat_Int, Int.natCast_add, slots, wkL_nil, wkL_cons, wkB_nil, wkR_nil, wkR_some, wkV_j, wkV_d, wkV_o, frz_d, oK_zs, reduceCtorEq]
    · obtain rfl : k = l.length := by omega
      simp (implicitDefEqProofs := false) (dsimp := false) only [↓optK_some, ↓rwK_mk_, ↓aw_seq, ↓aw_exit, ↓aw_ret, ↓aw_reg, ↓Qseq_n, ↓Qseq_x, ↓Qblk_x, ↓ops_nil, ↓ops_cons, ↓eval_tmp, ↓put_some, ↓op_move, ↓op_assign, ↓row_sz, ↓row_xs, ↓Qrow_r, ↓rowK_o, List.getD_cons_zero, List.getD_cons_succ, List.set_cons_zero, List.set_cons_succ, Bool.true_and, Nat.reduceAdd, Nat.reduceSub, Nat.reduceMul, evK_go, reduceIte, Nat.reduceEqDiff, Nat.reduceLT, true_and]
      have e1 : List.take l.length l.reverse = l.reverse := List.take_of_length_le (by simp)
      rw [e1]
      exact List.take_of_length_le (by simp)
theorem back_call (l : List (Int × Int)) (pure : Bool) (σ : St) (dst : Option Tmp) (K : St → Prop) : CallH Try.prog 35 [.l (l.map lnD)] pure σ dst (.mk : Hid K) = OrH ((l.length < 2 ^ 43) ∧ (pure || Res.flat (.row 2 ((backI l).map lnD))) = true ∧ evK ((σ.addRow ⟨2, (backI l).map lnD⟩).put dst (.o σ.rw.length 0 (List.length ((backI l).map lnD)))) (.mk : Hid K)) (.mk : Hid (CallH Try.prog 35 [.l (l.map lnD)] pure σ dst (.mk : Hid K))) := CallH.eqR (fun h => back_spec l h) pure σ dst K
theorem back_callD (l : List (Int × Int)) (pure : Bool) (σ : St) (dst : Option Tmp) (K : St → Prop) : CallH Try.prog 35 [.l (l.map lnD)] pure σ dst (.mk : Hid K) = OrH ((l.length < 2 ^ 43) ∧ (pure || D.flat (.l ((backI l).map lnD))) = true ∧ evK (σ.put dst (.d (.l ((backI l).map lnD)))) (.mk : Hid K)) (.mk : Hid (CallH Try.prog 35 [.l (l.map lnD)] pure σ dst (.mk : Hid K))) := CallH.eq (fun h => ((fun h => back_spec l h) h).data) pure σ dst K
theorem back_callDQ (l : List (Int × Int)) (pure : Bool) (C : V → Prop) : CallQ Try.prog 35 [.l (l.map lnD)] pure (.mk : Hid C) = OrH ((l.length < 2 ^ 43) ∧ (pure || D.flat (.l ((backI l).map lnD))) = true ∧ evK (V.d (.l ((backI l).map lnD))) (.mk : Hid C)) (.mk : Hid (CallQ Try.prog 35 [.l (l.map lnD)] pure (.mk : Hid C))) := CallQ.eq (fun h => ((fun h => back_spec l h) h).data) pure C
end Go.Proofs

namespace Go.Proofs
open Go.Aw
set_option linter.unusedSimpArgs false
set_option maxRecDepth 10000
theorem nD_ints (s : List Nat) : s.map nD = (s.map Int.ofNat).map (I .i64) := by rw [List.map_map]; rfl
theorem intsN_spec (a b : List Nat) (hpre : a.length < 2 ^ 62) : FnD Try.prog 44 [.l (a.map nD), .l (b.map nD)] (Bo (decide (a = b))) := by
  have h := ints_spec (a.map Int.ofNat) (b.map Int.ofNat) (by simpa using hpre)
  rw [← nD_ints, ← nD_ints] at h
  have e : (decide (a.map Int.ofNat = b.map Int.ofNat)) = decide (a = b) := by
    by_cases hab : a = b
    · simp [hab]
    · simp (implicitDefEqProofs := false) (dsimp := false) only [hab, decide_false, decide_eq_false_iff_not]; exact fun e => hab (ofNat_inj e)
  rw [e] at h
  exact h
theorem intsN_call (a b : List Nat) (pure : Bool) (σ : St) (dst : Option Tmp) (K : St → Prop) : CallH Try.prog 44 [.l (a.map nD), .l (b.map nD)] pure σ dst (.mk : Hid K) = OrH ((a.length < 2 ^ 62) ∧ (pure || D.flat (Bo (decide (a = b)))) = true ∧ evK (σ.put dst (.d (Bo (decide (a = b))))) (.mk : Hid K)) (.mk : Hid (CallH Try.prog 44 [.l (a.map nD), .l (b.map nD)] pure σ dst (.mk : Hid K))) := CallH.eq (intsN_spec a b) pure σ dst K
theorem intsN_callQ (a b : List Nat) (pure : Bool) (C : V → Prop) : CallQ Try.prog 44 [.l (a.map nD), .l (b.map nD)] pure (.mk : Hid C) = OrH ((a.length < 2 ^ 62) ∧ (pure || D.flat (Bo (decide (a = b)))) = true ∧ evK (V.d (Bo (decide (a = b)))) (.mk : Hid C)) (.mk : Hid (CallQ Try.prog 44 [.l (a.map nD), .l (b.map nD)] pure (.mk : Hid C))) := CallQ.eq (intsN_spec a b) pure C
theorem firstErr_iff {f : Int × Int → Int} {l : List (Int × Int)} : firstErr f l = 0 ↔ ∀ p ∈ l, f p = 0 := by
  refine ⟨firstErr_zero, fun h => ?_⟩
  induction l with
  | nil => rfl
  | cons p l ih =>
    simp (implicitDefEqProofs := false) (dsimp := false) only [firstErr, h p (by simp), if_true]
    exact ih fun q hq => h q (by simp [hq])
theorem chk_iff {n : Int} {l : List (Int × Int)} : chk n l = 0 ↔ (1 ≤ n ∧ n ≤ 8) ∧ l.length ≤ 24 ∧ ∀ p ∈ l, lineErr n p = 0 := by
  unfold chk
  split
  · rename_i h
    have : ¬ (1 ≤ n ∧ n ≤ 8) := by simpa [inB] using h
    constructor
    · intro h; cases h
    · intro h; exact absurd h.1 this
  · rename_i h
    have : 1 ≤ n ∧ n ≤ 8 := by simpa [inB] using h
    split
    · constructor
      · intro h; cases h
      · intro h; omega
    · rw [firstErr_iff]
      constructor
      · intro h; exact ⟨this, by omega, h⟩
      · intro h; exact h.2.2
theorem lineErr_iff {n : Int} {p : Int × Int} : lineErr n p = 0 ↔ (0 ≤ p.1 ∧ p.1 ≤ n - 1) ∧ (0 ≤ p.2 ∧ p.2 ≤ n - 1) ∧ p.1 ≠ p.2 := by
  unfold lineErr
  split
  · rename_i h
    constructor
    · intro h; cases h
    · intro h2; simp [inB, h2] at h
  · rename_i h
    simp (implicitDefEqProofs := false) (dsimp := false) only [Bool.not_eq_false, Bool.and_eq_true, inB, decide_eq_true_eq] at h
    split
    · rename_i h3
      constructor
      · intro h; cases h
      · intro h2; exact absurd h3 h2.2.2
    · rename_i h3
      exact ⟨fun _ => ⟨h.1, h.2, h3⟩, fun _ => rfl⟩
theorem chk_back {n : Int} {l : List (Int × Int)} : chk n (backI l) = 0 ↔ chk n l = 0 := by
  rw [chk_iff, chk_iff]
  have hl : (backI l).length = l.length := by simp [backI]
  rw [hl]
  refine and_congr_right fun _ => and_congr_right fun _ => ?_
  constructor
  · intro h p hp
    have := h (flipI p) (List.mem_map.2 ⟨p, by simpa using hp, rfl⟩)
    rw [lineErr_iff] at this ⊢
    exact ⟨this.2.1, this.1, fun e => this.2.2 e.symm⟩
  · intro h p hp
    obtain ⟨q, hq, rfl⟩ := List.mem_map.1 hp
    have := h q (by simpa using hq)
    rw [lineErr_iff] at this ⊢
    exact ⟨this.2.1, this.1, fun e => this.2.2 e.symm⟩
theorem natL_back (l : List (Int × Int)) : natL (backI l) = backL (natL l) := by
  unfold natL backI backL
  rw [List.map_map, ← List.map_reverse, List.map_map]
  rfl
theorem strongR_back (n : Int) (l : List (Int × Int)) : strongR n (backI l) = strongR n l := by
  unfold strongR
  by_cases h : chk n l = 0
  · rw [if_pos h, if_pos (chk_back.2 h), natL_back]
    have ok := chk_ok h
    exact strong_turn (by have := ok.hi; omega) ok.good
  · rw [if_neg h, if_neg (fun h' => h (chk_back.1 h'))]
theorem strongR_len (n : Int) (l : List (Int × Int)) : 0 < (strongR n l).length ↔ chk n l = 0 := by
  unfold strongR
  by_cases h : chk n l = 0
  · rw [if_pos h]
    have := (chk_ok h).lo
    simp [strongP, h]; omega
  · rw [if_neg h]; simp [h]
theorem strongR_le (n : Int) (l : List (Int × Int)) : (strongR n l).length ≤ 8 := by
  unfold strongR
  split
  · rename_i h
    have := (chk_ok h).hi
    simp [strongP]; omega
  · simp
theorem lStrongTurn_spec (n : Int) (l : List (Int × Int)) (hpre : l.length < 2 ^ 43) : FnD Try.prog 9 [I .i64 n, .l (l.map lnD)] (Bo true) := by
  have hl62 : l.length < 2 ^ 62 := by omega
  have hb62 : (backI l).length < 2 ^ 62 := by simp [backI]; omega
  refine FnD.go Try.func9 rfl rfl Try.results9 Try.ntmps9 ?_
  simp (implicitDefEqProofs := false) (dsimp := false) only [↓aw_seq, ↓aw_reg, ↓Qseq_n, ↓ops_nil, ↓ops_cons, ↓eval_bool, ↓eval_func, ↓put_some, ↓op_assign, ↓op_call, isD_d, ↓fnK_f, ↓call_H, ↓callK_H, ↓allT_nil, ↓td_d, List.set_cons_zero, List.set_cons_succ, List.cons_append, List.nil_append, List.append_nil, List.map_cons, List.map_nil, List.length_cons, List.length_nil, List.all_nil, Bool.and_self, Nat.reduceAdd, Nat.reduceSub, Nat.reduceMul, Nat.zero_add, List.replicate, evK_go, reduceIte, Nat.reduceEqDiff, Nat.reduceLT, and_self, Int.zero_add]
  simp (implicitDefEqProofs := false) (dsimp := false) only [sfact_call, spartsS_call, back_callD, hl62, hb62, hpre, eval_nilI, ↓er_eql, ↓bo_eql, ↓cdK_false, ↓gdK_t, ↓gval_mk, ↓gvL_zero, ↓gvL_succ, ↓nthK_H, ↓nthH_zero, ↓nthH_succ, ↓aw_cond, ↓aw_seq, ↓aw_skip, ↓aw_reg, ↓aw_draw, ↓Qseq_n, ↓ops_nil, ↓ops_cons, ↓eval_tmp, ↓eval_func, ↓put_some, ↓bK_b, ↓ev_move, ↓ev_bin, ↓tK_t, ↓op_move, ↓op_assign, ↓op_not, ↓op_extract, ↓op_call, isD_d, ↓fnK_f, ↓call_H, ↓callK_H, ↓allT_nil, ↓allT_cons, ↓td_d, ↓draw_H, ↓h_cons, ↓ldH_n, ↓ldH_g, ↓q_move, ↓q_bin, ↓il_move, ↓il_bin, ↓st_tm, List.getD_cons_zero, List.getD_cons_succ, List.set_cons_zero, List.set_cons_succ, List.append_nil, List.all_cons, List.all_nil, Bool.true_and, Bool.and_self, Bool.true_or, Nat.reduceAdd, Nat.reduceSub, Nat.reduceMul, evK_go, reduceIte, Bool.not_true, Nat.reduceEqDiff, Nat.reduceLT, and_self, true_and]
  have e1 : decide (chk n (backI l) = 0) = decide (chk n l = 0) := by simp (implicitDefEqProofs := false) (dsimp := false) only [chk_back]
  have e2 := strongR_back n l
  have e3 : decide ((0 : Int) < (strongR n l).length) = decide (chk n l = 0) := by
    have := strongR_len n l
    rw [decide_eq_decide]; omega
  have h8 : (strongR n l).length < 2 ^ 62 := by have := strongR_le n l; omega
  refine OrH.l (OrH.l (OrH.l (OrH.l (OrH.l (OrH.l (OrH.l (OrH.l (OrH.l ⟨DrawH.of follows_mixed (by kernel_rfl), ?_⟩))))))))
  simp (implicitDefEqProofs := false) (dsimp := false) only [e1, e2, e3, beq_self_eq_true, intsN_callQ, h8, eval_nilI, ↓er_eql, ↓bo_eql, ↓cdK_true, ↓gdK_t, ↓gval_mk, ↓gvL_zero, ↓gvL_succ, ↓aw_ret, ↓Qseq_n, ↓Qret_r, ↓eval_tmp, ↓eval_int, ↓eval_func, ↓put_some, ↓bK_b, ↓lenK_l, ↓ev_move, ↓ev_assign, ↓ev_pick, ↓ev_bin, ↓ev_len, ↓binE_i, ↓bi_gtr, ↓orH_T, isD_d, ↓fnK_f, ↓callKQ_H, ↓allT_nil, ↓allT_cons, ↓td_d, ↓ret_1, ↓h_nil, ↓h_cons, ↓ldH_n, ↓ldH_g, ↓q_call, ↓q_bi, ↓q_move, ↓q_assign, ↓q_pick, ↓q_bin, ↓il_move, ↓il_assign, ↓il_pick, ↓il_bin, ↓il_call, ↓il_len, ↓st_tm, ↓sl28, List.getD_cons_zero, List.getD_cons_succ, List.set_cons_zero, List.set_cons_succ, List.append_nil, List.length_map, List.all_cons, List.all_nil, Bool.and_self, Bool.true_or, Nat.reduceAdd, Nat.reduceSub, Nat.reduceMul, evK_go, reduceIte, decide_true, Nat.reduceEqDiff, Nat.reduceLT, and_self]
end Go.Proofs

namespace Go.Proofs
open Go.Aw
set_option linter.unusedSimpArgs false
set_option maxRecDepth 10000
theorem inB_iff {x lo hi : Int} : inB x lo hi = true ↔ lo ≤ x ∧ x ≤ hi := by simp [inB]
theorem ptsI_mem (s : Nat) (c : Nat) : (c : Int) ∈ ptsI s ↔ c < 64 ∧ s.testBit c = true := by
  unfold ptsI
  rw [List.mem_map, ← pts_mem]
  exact ⟨fun ⟨x, h, e⟩ => by rw [← Int.ofNat_inj.1 e]; exact h, fun h => ⟨c, h, rfl⟩⟩
theorem mapP_get (W : List Nat) (i : Nat) : (W.map ptsI).getD i default = ptsI (W.getD i default) := by
  rw [List.getD_eq_getElem?_getD, List.getD_eq_getElem?_getD, List.getElem?_map]
  cases W[i]? <;> rfl
theorem lStrongBoth_spec (n : Int) (l : List (Int × Int)) (a b : Int) (_hn : -9223372036854775808 ≤ n ∧ n ≤ 9223372036854775807) (hpre : l.length < 2 ^ 43) (_ha : -9223372036854775808 ≤ a ∧ a ≤ 9223372036854775807) (_hb : -9223372036854775808 ≤ b ∧ b ≤ 9223372036854775807) :
    FnD Try.prog 19 [I .i64 n, .l (l.map lnD), I .i64 a, I .i64 b] (Bo true) := by
  have hl62 : l.length < 2 ^ 62 := by omega
  refine FnD.go Try.func19 rfl rfl Try.results19 Try.ntmps19 ?_
  simp (implicitDefEqProofs := false) (dsimp := false) only [↓aw_seq, ↓aw_reg, ↓Qseq_n, ↓ops_nil, ↓ops_cons, ↓eval_bool, ↓eval_func, ↓put_some, ↓op_assign, ↓op_call, isD_d, ↓fnK_f, ↓call_H, ↓callK_H, ↓allT_nil, ↓td_d, List.set_cons_zero, List.set_cons_succ, List.cons_append, List.nil_append, List.append_nil, List.map_cons, List.map_nil, List.length_cons, List.length_nil, List.all_nil, Bool.and_self, Nat.reduceAdd, Nat.reduceSub, Nat.reduceMul, Nat.zero_add, List.replicate, evK_go, reduceIte, Nat.reduceEqDiff, Nat.reduceLT, and_self, Int.zero_add]
  simp (implicitDefEqProofs := false) (dsimp := false) only [sfact_call, spartsS_call, hl62, eval_nilI, ↓er_neq, ↓cdK_false, ↓cdK_not, ↓nthK_H, ↓nthH_zero, ↓nthH_succ, ↓aw_cond, ↓aw_seq, ↓aw_skip, ↓aw_reg, ↓Qseq_n, ↓ops_nil, ↓ops_cons, ↓eval_tmp, ↓eval_func, ↓put_some, ↓bK_b, ↓tK_t, ↓op_move, ↓op_assign, ↓op_bin, ↓op_not, ↓op_extract, ↓op_call, isD_d, ↓fnK_f, ↓call_H, ↓callK_H, ↓allT_nil, ↓allT_cons, ↓td_d, List.getD_cons_zero, List.getD_cons_succ, List.set_cons_zero, List.set_cons_succ, List.append_nil, List.all_cons, List.all_nil, Bool.true_and, Bool.and_self, Bool.true_or, Nat.reduceAdd, Nat.reduceSub, Nat.reduceMul, evK_go, reduceIte, Bool.not_true, Nat.reduceEqDiff, Nat.reduceLT, and_self, true_and]
  refine OrH.l (OrH.l (OrH.l (OrH.l (cdK_dec (fun hc => ?_) (fun hc => ?_)))))
  rotate_left
  · have e1 : strongR n l = [] := if_neg hc
    simp (implicitDefEqProofs := false) (dsimp := false) only [e1, ↓aw_seq, ↓aw_ret, ↓aw_reg, ↓Qseq_n, ↓Qseq_r, ↓Qret_r, ↓ops_nil, ↓ops_cons, ↓eval_tmp, ↓eval_int, ↓put_some, ↓lenK_l, ↓binE_i, ↓bi_eql, ↓op_move, ↓op_assign, ↓op_bin, ↓op_len, ↓td_d, ↓ret_1, ↓sl28, List.getD_cons_zero, List.getD_cons_succ, List.set_cons_zero, List.set_cons_succ, List.map_nil, List.length_nil, Nat.reduceAdd, Nat.reduceSub, Nat.reduceMul, evK_go, reduceIte, decide_true, Nat.reduceEqDiff, Nat.reduceLT, Int.cast_ofNat_Int]
  simp (implicitDefEqProofs := false) (dsimp := false) only [call_call, hl62, hc, eval_nilI, ↓er_neq, ↓cdK_false, ↓cdK_not, ↓gdK_f, ↓gval_mk, ↓gvL_zero, ↓gvL_succ, ↓nthK_H, ↓nthH_zero, ↓nthH_succ, ↓aw_seq, ↓aw_skip, ↓aw_reg, ↓Qseq_n, ↓ops_nil, ↓ops_cons, ↓ops_guard, ↓eval_tmp, ↓eval_func, ↓put_some, ↓bK_b, ↓lenK_l, ↓tK_t, ↓binE_i, ↓bi_neq, ↓op_move, ↓op_assign, ↓op_pick, ↓op_bin, ↓op_extract, ↓op_len, ↓op_call, isD_d, ↓fnK_f, ↓call_H, ↓callK_H, ↓allT_nil, ↓allT_cons, ↓td_d, ↓st_tm, ↓sl28, List.getD_cons_zero, List.getD_cons_succ, List.set_cons_zero, List.set_cons_succ, List.append_nil, List.length_map, List.all_cons, List.all_nil, Bool.true_and, Bool.and_self, Bool.true_or, Nat.reduceAdd, Nat.reduceSub, Nat.reduceMul, evK_go, reduceIte, decide_true, Bool.not_true, Nat.reduceEqDiff, Nat.reduceLT, and_self, true_and]
  have ok := chk_ok hc
  have h8 := ok.hi
  have hlo := ok.lo
  have hg := ok.good
  have e0 := ok.n0
  rw [show strongR n l = strongP n.toNat (natL l) from if_pos hc, show closeAll n l = (war n.toNat (natL l)).map ptsI from if_pos hc]
  clear ok hc hl62 hpre
  generalize natL l = L at *
  generalize n.toNat = m at *
  subst e0
  have hP : (strongP m L).length = m := by simp [strongP]
  have hW : (war m L).length = m := war_len hg
  simp (implicitDefEqProofs := false) (dsimp := false) only [hP, hW, in2_call, ↓cdK_true, ↓cdK_false, ↓cdK_not, ↓gdK_f, ↓gval_mk, ↓gvL_zero, ↓gvL_succ, ↓ops_cons, ↓ops_guard, ↓eval_tmp, ↓eval_int, ↓eval_func, ↓put_some, ↓bK_b, ↓lenK_l, ↓binE_i, ↓bi_sub, ↓bi_neq, ↓in_i64, ↓op_move, ↓op_pick, ↓op_bin, ↓op_not, ↓op_len, ↓op_call, isD_d, ↓fnK_f, ↓call_H, ↓callK_H, ↓allT_nil, ↓allT_cons, ↓td_d, ↓st_tm, ↓sl44, List.getD_cons_zero, List.getD_cons_succ, List.set_cons_zero, List.set_cons_succ, List.append_nil, List.length_map, List.all_cons, List.all_nil, Bool.true_and, Bool.and_self, Bool.true_or, Nat.reduceAdd, Nat.reduceSub, Nat.reduceMul, evK_go, reduceIte, decide_true, Bool.not_true, Nat.reduceEqDiff, Nat.reduceLT, and_self, true_and]
  refine OrH.l (OrH.l ⟨by omega, OrH.l (OrH.l (cdK_split (fun hA => ?_) (fun hA => ?_)))⟩)
  rotate_left
  · simp (implicitDefEqProofs := false) (dsimp := false) only [hA, hP, hW, eval_nilI, ↓er_eql, ↓cdK_true, ↓gdK_t, ↓gdK_f, ↓gval_mk, ↓gvL_zero, ↓gvL_succ, ↓aw_cond, ↓aw_seq, ↓aw_ret, ↓aw_reg, ↓Qseq_n, ↓Qseq_r, ↓Qret_r, ↓ops_nil, ↓ops_cons, ↓ops_guard, ↓eval_tmp, ↓eval_bool, ↓put_some, ↓bK_b, ↓lenK_l, ↓binE_i, ↓bi_eql, ↓op_move, ↓op_assign, ↓op_pick, ↓op_bin, ↓op_len, ↓td_d, ↓ret_1, ↓st_tm, ↓sl28, ↓sl44, List.getD_cons_zero, List.getD_cons_succ, List.set_cons_zero, List.set_cons_succ, List.length_map, Nat.reduceAdd, Nat.reduceSub, Nat.reduceMul, evK_go, reduceIte, decide_true, Bool.not_false, Nat.reduceEqDiff, Nat.reduceLT]
  simp (implicitDefEqProofs := false) (dsimp := false) only [hA, in2_call, ↓cdK_false, ↓cdK_not, ↓gdK_f, ↓gval_mk, ↓gvL_zero, ↓gvL_succ, ↓aw_cond, ↓Qseq_n, ↓ops_nil, ↓ops_cons, ↓ops_guard, ↓eval_tmp, ↓eval_int, ↓eval_func, ↓put_some, ↓bK_b, ↓binE_i, ↓bi_sub, ↓in_i64, ↓op_move, ↓op_pick, ↓op_bin, ↓op_not, ↓op_call, isD_d, ↓fnK_f, ↓call_H, ↓callK_H, ↓allT_nil, ↓allT_cons, ↓td_d, ↓st_tm, List.getD_cons_zero, List.getD_cons_succ, List.set_cons_zero, List.set_cons_succ, List.append_nil, List.all_cons, List.all_nil, Bool.true_and, Bool.and_self, Bool.true_or, Nat.reduceAdd, Nat.reduceSub, Nat.reduceMul, evK_go, reduceIte, Bool.not_true, Nat.reduceEqDiff, Nat.reduceLT, and_self, true_and]
  refine ⟨by omega, OrH.l (OrH.l (cdK_split (fun hB => ?_) (fun hB => ?_)))⟩
  rotate_left
  · simp (implicitDefEqProofs := false) (dsimp := false) only [hB, hP, hW, eval_nilI, ↓er_eql, ↓cdK_true, ↓gdK_t, ↓gval_mk, ↓gvL_zero, ↓gvL_succ, ↓aw_seq, ↓aw_ret, ↓aw_reg, ↓Qseq_n, ↓Qseq_r, ↓Qret_r, ↓ops_nil, ↓ops_cons, ↓ops_guard, ↓eval_tmp, ↓put_some, ↓bK_b, ↓lenK_l, ↓binE_i, ↓bi_eql, ↓op_move, ↓op_assign, ↓op_pick, ↓op_bin, ↓op_len, ↓td_d, ↓ret_1, ↓st_tm, ↓sl28, ↓sl44, List.getD_cons_zero, List.getD_cons_succ, List.set_cons_zero, List.set_cons_succ, List.length_map, Nat.reduceAdd, Nat.reduceSub, Nat.reduceMul, evK_go, reduceIte, decide_true, Bool.not_false, Nat.reduceEqDiff, Nat.reduceLT]
  rw [inB_iff] at hA hB
  obtain ⟨x, rfl⟩ := Int.eq_ofNat_of_zero_le hA.1
  obtain ⟨y, rfl⟩ := Int.eq_ofNat_of_zero_le hB.1
  have hx : x < m := by omega
  have hy : y < m := by omega
  have hA' : inB (x : Int) 0 ((m : Int) - 1) = true := inB_iff.2 hA
  have hB' : inB (y : Int) 0 ((m : Int) - 1) = true := inB_iff.2 hB
  have hk : ∀ i j : Nat, (j : Int) ∈ ptsI ((war m L).getD i default) ↔ Path1 L i j := fun i j => by
    rw [ptsI_mem, war_bit hg]
    exact ⟨fun h => h.2, fun h => ⟨by have := (h.lt hg).2; omega, h⟩⟩
  have hl62 : ∀ i : Nat, (ptsI ((war m L).getD i default)).length < 2 ^ 62 := fun i => by have := ptsI_len ((war m L).getD i default); omega
  have hPx : (strongP m L).getD x default = part m L x := P_get hx
  have hPy : (strongP m L).getD y default = part m L y := P_get hy
  have hle := (part_mut (by omega) hg hx).2
  have hin : inB (part m L x : Int) 0 (x : Int) = true := inB_iff.2 ⟨by omega, by omega⟩
  have hiff := part_iff (by omega) hg hx hy
  simp (implicitDefEqProofs := false) (dsimp := false) only [hB', ↓gdK_f, ↓gval_mk, ↓gvL_zero, ↓gvL_succ, ↓aw_seq, ↓aw_skip, ↓aw_reg, ↓Qseq_n, ↓ops_cons, ↓ops_guard, ↓eval_tmp, ↓put_some, ↓binE_i, ↓bi_eql, ↓op_move, ↓op_bin, ↓st_tm, List.getD_cons_zero, List.getD_cons_succ, List.set_cons_zero, List.set_cons_succ, Nat.reduceAdd, Nat.reduceSub, Nat.reduceMul, evK_go, reduceIte, Bool.not_true, Nat.reduceEqDiff, Nat.reduceLT, Int.natCast_inj]
  refine cdK_dec (fun hxy => ?_) (fun hxy => ?_)
  · subst hxy
    simp (implicitDefEqProofs := false) (dsimp := false) only [hx, hP, hPx, nD, ↓bo_eql, ↓cdK_true, ↓gdK_junk, ↓gdK_t, ↓gdK_f, ↓gval_mk, ↓gvL_zero, ↓gvL_succ, ↓atK_H, ↓atH_map, ↓aw_seq, ↓aw_draw, ↓Qseq_n, ↓ops_nil, ↓ops_cons, ↓ops_guard, ↓eval_tmp, ↓eval_bool, ↓put_some, ↓bK_b, ↓iK_i, ↓ev_move, ↓ev_load, ↓ev_bin, ↓ev_ia, ↓binE_i, ↓bi_eql, ↓ldK_q, ↓iaK_l, ↓op_assign, ↓op_pick, ↓draw_H, ↓h_cons, ↓ldH_n, ↓ldH_g, ↓q_move, ↓q_load, ↓q_bin, ↓q_ia, ↓il_move, ↓il_load, ↓il_bin, ↓il_ia, ↓st_tm, ↓cells_c, ↓hd_cons, ↓ty3, ↓sl28, List.getD_cons_zero, List.getD_cons_succ, List.set_cons_zero, List.set_cons_succ, List.length_cons, List.length_nil, Bool.true_and, Nat.reduceAdd, Nat.reduceSub, Nat.reduceMul, Nat.zero_add, Int.toNat_natCast, evK_go, reduceIte, decide_true, Nat.reduceEqDiff, Nat.reduceLT, true_and, Int.zero_add, Int.natCast_nonneg]
    refine OrH.l ⟨DrawH.of follows_mixed (by kernel_rfl), ?_⟩
    simp (implicitDefEqProofs := false) (dsimp := false) only [beq_self_eq_true, hx, hP, hPx, nD, in2_callQ, hin, ↓cdK_true, ↓gdK_t, ↓gval_mk, ↓gvL_zero, ↓gvL_succ, ↓atK_H, ↓atH_map, ↓aw_ret, ↓Qseq_n, ↓Qret_r, ↓eval_tmp, ↓eval_int, ↓eval_func, ↓put_some, ↓bK_b, ↓iK_i, ↓ev_move, ↓ev_assign, ↓ev_pick, ↓ev_load, ↓ev_ia, ↓ldK_q, ↓iaK_l, ↓orH_T, isD_d, ↓fnK_f, ↓callKQ_H, ↓allT_nil, ↓allT_cons, ↓td_d, ↓ret_1, ↓h_nil, ↓h_cons, ↓ldH_n, ↓ldH_g, ↓q_call, ↓q_move, ↓q_assign, ↓q_pick, ↓q_load, ↓q_ia, ↓il_move, ↓il_assign, ↓il_pick, ↓il_load, ↓il_ia, ↓il_call, ↓st_tm, ↓cells_c, ↓hd_cons, ↓ty3, ↓sl28, List.getD_cons_zero, List.getD_cons_succ, List.set_cons_zero, List.set_cons_succ, List.append_nil, List.length_cons, List.length_nil, List.all_cons, List.all_nil, Bool.and_self, Bool.true_or, Nat.reduceAdd, Nat.reduceSub, Nat.reduceMul, Nat.zero_add, Int.toNat_natCast, evK_go, reduceIte, Nat.reduceEqDiff, Nat.reduceLT, and_self, Int.zero_add, Int.natCast_nonneg]
  · have hm : Mut L x y ↔ (Path1 L x y ∧ Path1 L y x) := ⟨fun h => ⟨h.1.cases1.resolve_left hxy, h.2.cases1.resolve_left fun e => hxy e.symm⟩, fun h => ⟨h.1.path, h.2.path⟩⟩
    rw [hm, ← hk, ← hk] at hiff
    by_cases h1 : (y : Int) ∈ ptsI ((war m L).getD x default)
    · by_cases h2 : (x : Int) ∈ ptsI ((war m L).getD y default)
      · have he := hiff.2 ⟨h1, h2⟩
        rw [he] at hin
        simp (implicitDefEqProofs := false) (dsimp := false) only [hx, hy, hP, hW, hxy, liD, mapP_get, hasR_call, hl62, h1, h2, nD, hPx, hPy, he, ↓bo_eql, ↓cdK_true, ↓cdK_false, ↓gdK_t, ↓gdK_f, ↓gval_mk, ↓gvL_zero, ↓gvL_succ, ↓atK_H, ↓atH_map, ↓aw_seq, ↓aw_draw, ↓Qseq_n, ↓ops_nil, ↓ops_cons, ↓ops_guard, ↓eval_tmp, ↓eval_func, ↓put_some, ↓bK_b, ↓iK_i, ↓ev_move, ↓ev_load, ↓ev_bin, ↓ev_ia, ↓binE_i, ↓bi_eql, ↓ldK_q, ↓iaK_l, ↓op_move, ↓op_assign, ↓op_pick, ↓op_load, ↓op_ia, ↓op_call, isD_d, ↓fnK_f, ↓call_H, ↓callK_H, ↓allT_nil, ↓allT_cons, ↓td_d, ↓draw_H, ↓h_cons, ↓ldH_n, ↓ldH_g, ↓q_move, ↓q_load, ↓q_bin, ↓q_ia, ↓il_move, ↓il_load, ↓il_bin, ↓il_ia, ↓st_tm, ↓cells_c, ↓cells_l, ↓hd_cons, ↓ty3, ↓ty28, ↓sl28, ↓sl44, List.getD_cons_zero, List.getD_cons_succ, List.set_cons_zero, List.set_cons_succ, List.append_nil, List.length_cons, List.length_nil, List.length_map, List.all_cons, List.all_nil, Bool.true_and, Bool.and_self, Bool.true_or, Nat.reduceAdd, Nat.reduceSub, Nat.reduceMul, Nat.zero_add, Int.toNat_natCast, evK_go, reduceIte, decide_true, decide_false, Nat.reduceEqDiff, Nat.reduceLT, and_self, true_and, Int.zero_add, Int.natCast_nonneg]
        repeat refine OrH.l ?_
        refine ⟨DrawH.of follows_mixed (by kernel_rfl), ?_⟩
        simp (implicitDefEqProofs := false) (dsimp := false) only [beq_self_eq_true, hx, hP, nD, hPx, he, in2_callQ, hin, ↓cdK_true, ↓gdK_t, ↓gval_mk, ↓gvL_zero, ↓gvL_succ, ↓atK_H, ↓atH_map, ↓aw_ret, ↓Qseq_n, ↓Qret_r, ↓eval_tmp, ↓eval_int, ↓eval_func, ↓put_some, ↓bK_b, ↓iK_i, ↓ev_move, ↓ev_assign, ↓ev_pick, ↓ev_load, ↓ev_ia, ↓ldK_q, ↓iaK_l, ↓orH_T, isD_d, ↓fnK_f, ↓callKQ_H, ↓allT_nil, ↓allT_cons, ↓td_d, ↓ret_1, ↓h_nil, ↓h_cons, ↓ldH_n, ↓ldH_g, ↓q_call, ↓q_move, ↓q_assign, ↓q_pick, ↓q_load, ↓q_ia, ↓il_move, ↓il_assign, ↓il_pick, ↓il_load, ↓il_ia, ↓il_call, ↓st_tm, ↓cells_c, ↓hd_cons, ↓ty3, ↓sl28, List.getD_cons_zero, List.getD_cons_succ, List.set_cons_zero, List.set_cons_succ, List.append_nil, List.length_cons, List.length_nil, List.all_cons, List.all_nil, Bool.and_self, Bool.true_or, Nat.reduceAdd, Nat.reduceSub, Nat.reduceMul, Nat.zero_add, Int.toNat_natCast, evK_go, reduceIte, Nat.reduceEqDiff, Nat.reduceLT, and_self, Int.zero_add, Int.natCast_nonneg]
      · have he : ¬ part m L x = part m L y := fun e => h2 (hiff.1 e).2
        simp (implicitDefEqProofs := false) (dsimp := false) only [hx, hy, hP, hW, hxy, liD, mapP_get, hasR_call, hl62, h1, h2, nD, hPx, hPy, he, ↓bo_eql, ↓cdK_true, ↓cdK_false, ↓gdK_t, ↓gdK_f, ↓gval_mk, ↓gvL_zero, ↓gvL_succ, ↓atK_H, ↓atH_map, ↓aw_seq, ↓aw_draw, ↓Qseq_n, ↓ops_nil, ↓ops_cons, ↓ops_guard, ↓eval_tmp, ↓eval_func, ↓put_some, ↓bK_b, ↓iK_i, ↓ev_move, ↓ev_load, ↓ev_bin, ↓ev_ia, ↓binE_i, ↓bi_eql, ↓ldK_q, ↓iaK_l, ↓op_move, ↓op_assign, ↓op_pick, ↓op_load, ↓op_ia, ↓op_call, isD_d, ↓fnK_f, ↓call_H, ↓callK_H, ↓allT_nil, ↓allT_cons, ↓td_d, ↓draw_H, ↓h_cons, ↓ldH_n, ↓ldH_g, ↓q_move, ↓q_load, ↓q_bin, ↓q_ia, ↓il_move, ↓il_load, ↓il_bin, ↓il_ia, ↓st_tm, ↓cells_c, ↓cells_l, ↓hd_cons, ↓ty3, ↓ty28, ↓sl28, ↓sl44, List.getD_cons_zero, List.getD_cons_succ, List.set_cons_zero, List.set_cons_succ, List.append_nil, List.length_cons, List.length_nil, List.length_map, List.all_cons, List.all_nil, Bool.true_and, Bool.and_self, Bool.true_or, Nat.reduceAdd, Nat.reduceSub, Nat.reduceMul, Nat.zero_add, Int.toNat_natCast, evK_go, reduceIte, decide_true, decide_false, Nat.reduceEqDiff, Nat.reduceLT, and_self, true_and, Int.zero_add, Int.natCast_nonneg, Int.natCast_inj]
        repeat refine OrH.l ?_
        refine ⟨DrawH.of follows_mixed (by kernel_rfl), ?_⟩
        simp (implicitDefEqProofs := false) (dsimp := false) only [beq_self_eq_true, hx, hP, nD, hPx, in2_callQ, hin, ↓cdK_true, ↓gdK_t, ↓gval_mk, ↓gvL_zero, ↓gvL_succ, ↓atK_H, ↓atH_map, ↓aw_ret, ↓Qseq_n, ↓Qret_r, ↓eval_tmp, ↓eval_int, ↓eval_func, ↓put_some, ↓bK_b, ↓iK_i, ↓ev_move, ↓ev_assign, ↓ev_pick, ↓ev_load, ↓ev_ia, ↓ldK_q, ↓iaK_l, ↓orH_T, isD_d, ↓fnK_f, ↓callKQ_H, ↓allT_nil, ↓allT_cons, ↓td_d, ↓ret_1, ↓h_nil, ↓h_cons, ↓ldH_n, ↓ldH_g, ↓q_call, ↓q_move, ↓q_assign, ↓q_pick, ↓q_load, ↓q_ia, ↓il_move, ↓il_assign, ↓il_pick, ↓il_load, ↓il_ia, ↓il_call, ↓st_tm, ↓cells_c, ↓hd_cons, ↓ty3, ↓sl28, List.getD_cons_zero, List.getD_cons_succ, List.set_cons_zero, List.set_cons_succ, List.append_nil, List.length_cons, List.length_nil, List.all_cons, List.all_nil, Bool.and_self, Bool.true_or, Nat.reduceAdd, Nat.reduceSub, Nat.reduceMul, Nat.zero_add, Int.toNat_natCast, evK_go, reduceIte, Nat.reduceEqDiff, Nat.reduceLT, and_self, Int.zero_add, Int.natCast_nonneg]
    · have he : ¬ part m L x = part m L y := fun e => h1 (hiff.1 e).1
      simp (implicitDefEqProofs := false) (dsimp := false) only [hx, hy, hP, hW, hxy, liD, mapP_get, hasR_call, hl62, h1, nD, hPx, hPy, he, ↓bo_eql, ↓cdK_false, ↓gdK_t, ↓gdK_f, ↓gval_mk, ↓gvL_zero, ↓gvL_succ, ↓atK_H, ↓atH_map, ↓aw_seq, ↓aw_draw, ↓Qseq_n, ↓ops_nil, ↓ops_cons, ↓ops_guard, ↓eval_tmp, ↓eval_bool, ↓eval_func, ↓put_some, ↓bK_b, ↓iK_i, ↓ev_move, ↓ev_load, ↓ev_bin, ↓ev_ia, ↓binE_i, ↓bi_eql, ↓ldK_q, ↓iaK_l, ↓op_move, ↓op_assign, ↓op_pick, ↓op_load, ↓op_ia, ↓op_call, isD_d, ↓fnK_f, ↓call_H, ↓callK_H, ↓allT_nil, ↓allT_cons, ↓td_d, ↓draw_H, ↓h_cons, ↓ldH_n, ↓ldH_g, ↓q_move, ↓q_load, ↓q_bin, ↓q_ia, ↓il_move, ↓il_load, ↓il_bin, ↓il_ia, ↓st_tm, ↓cells_c, ↓cells_l, ↓hd_cons, ↓ty3, ↓ty28, ↓sl28, ↓sl44, List.getD_cons_zero, List.getD_cons_succ, List.set_cons_zero, List.set_cons_succ, List.append_nil, List.length_cons, List.length_nil, List.length_map, List.all_cons, List.all_nil, Bool.true_and, Bool.and_self, Bool.true_or, Nat.reduceAdd, Nat.reduceSub, Nat.reduceMul, Nat.zero_add, Int.toNat_natCast, evK_go, reduceIte, decide_false, Nat.reduceEqDiff, Nat.reduceLT, and_self, true_and, Int.zero_add, Int.natCast_nonneg, Int.natCast_inj]
      repeat refine OrH.l ?_
      refine ⟨DrawH.of follows_mixed (by kernel_rfl), ?_⟩
      simp (implicitDefEqProofs := false) (dsimp := false) only [beq_self_eq_true, hx, hP, nD, hPx, in2_callQ, hin, ↓cdK_true, ↓gdK_t, ↓gval_mk, ↓gvL_zero, ↓gvL_succ, ↓atK_H, ↓atH_map, ↓aw_ret, ↓Qseq_n, ↓Qret_r, ↓eval_tmp, ↓eval_int, ↓eval_func, ↓put_some, ↓bK_b, ↓iK_i, ↓ev_move, ↓ev_assign, ↓ev_pick, ↓ev_load, ↓ev_ia, ↓ldK_q, ↓iaK_l, ↓orH_T, isD_d, ↓fnK_f, ↓callKQ_H, ↓allT_nil, ↓allT_cons, ↓td_d, ↓ret_1, ↓h_nil, ↓h_cons, ↓ldH_n, ↓ldH_g, ↓q_call, ↓q_move, ↓q_assign, ↓q_pick, ↓q_load, ↓q_ia, ↓il_move, ↓il_assign, ↓il_pick, ↓il_load, ↓il_ia, ↓il_call, ↓st_tm, ↓cells_c, ↓hd_cons, ↓ty3, ↓sl28, List.getD_cons_zero, List.getD_cons_succ, List.set_cons_zero, List.set_cons_succ, List.append_nil, List.length_cons, List.length_nil, List.all_cons, List.all_nil, Bool.and_self, Bool.true_or, Nat.reduceAdd, Nat.reduceSub, Nat.reduceMul, Nat.zero_add, Int.toNat_natCast, evK_go, reduceIte, Nat.reduceEqDiff, Nat.reduceLT, and_self, Int.zero_add, Int.natCast_nonneg]
end Go.Proofs

namespace Go.Proofs
open Go.Aw
set_option linter.unusedSimpArgs false
set_option maxRecDepth 10000
/-- All but one. -/
def butK {α : Type} [Inhabited α] (l : List α) (k : Int) (i : Nat) : List α := ((List.range i).filter fun j : Nat => !decide ((j : Int) = k)).map fun j => l.getD j default
def butL {α : Type} [Inhabited α] (l : List α) (k : Int) : List α := butK l k l.length
theorem butK_succ {α : Type} [Inhabited α] (l : List α) (k : Int) (i : Nat) : butK l k (i + 1) = if (i : Int) = k then butK l k i else butK l k i ++ [l.getD i default] := by
  unfold butK
  rw [List.range_succ, List.filter_append, List.map_append]
  by_cases h : (i : Int) = k <;> simp [h]
theorem butK_len {α : Type} [Inhabited α] (l : List α) (k : Int) (i : Nat) : (butK l k i).length ≤ i := by
  unfold butK
  rw [List.length_map]
  exact Nat.le_trans (List.length_filter_le _ _) (by simp)
theorem but_mem {α : Type} [Inhabited α] {l : List α} {k : Int} {x : α} (h : x ∈ butL l k) : x ∈ l := by
  obtain ⟨j, hj, rfl⟩ := List.mem_map.1 h
  exact getD_mem (by simpa using (List.mem_filter.1 hj).1)
theorem but_map {α β : Type} [Inhabited α] [Inhabited β] (f : α → β) (l : List α) (k : Int) : butL (l.map f) k = (butL l k).map f := by
  unfold butL butK
  rw [List.length_map, List.map_map]
  refine List.map_congr_left fun j hj => ?_
  have : j < l.length := by simpa using (List.mem_filter.1 hj).1
  simp [List.getD_eq_getElem?_getD, this]
theorem but_erase {α : Type} [Inhabited α] (l : List α) (k : Nat) (hk : k < l.length) : butL l (k : Int) = l.eraseIdx k := by
  have key : ∀ i, i ≤ l.length → butK l (k : Int) i = if k < i then (l.take i).eraseIdx k else l.take i := by
    intro i
    induction i with
    | zero => intro _; simp [butK]
    | succ i ih =>
      intro hi
      rw [butK_succ, ih (by omega)]
      rcases Nat.lt_trichotomy i k with h | h | h
      · rw [if_neg (by omega), if_neg (by omega), if_neg (by omega), take_succ_getD (by omega)]
      · subst h
        rw [if_pos rfl, if_neg (by omega), if_pos (by omega), take_succ_getD (by omega), List.eraseIdx_append_of_length_le (by simp; omega)]
        simp [show min i l.length = i by omega]
      · rw [if_neg (by omega), if_pos h, if_pos (by omega), take_succ_getD (by omega), List.eraseIdx_append_of_lt_length (by simp; omega)]
  have := key l.length (Nat.le_refl _)
  rw [if_pos hk, List.take_length] at this
  exact this
theorem but_spec (l : List (Int × Int)) (k : Int) (hpre : l.length < 2 ^ 43) : FnR Try.prog 41 [.l (l.map lnD), I .i64 k] 2 ((butL l k).map lnD) := by
  refine FnR.go Try.func41 rfl rfl Try.results41 Try.ntmps41 ?_
  simp (implicitDefEqProofs := false) (dsimp := false) only [↓aw_seq, ↓aw_block, ↓aw_loop, ↓aw_reg, ↓Qseq_n, ↓ops_nil, ↓ops_cons, ↓eval_int, ↓eval_nil, ↓put_some, ↓op_assign, List.set_cons_zero, List.set_cons_succ, List.cons_append, List.nil_append, List.map_cons, List.map_nil, List.length_cons, List.length_nil, Nat.reduceAdd, Nat.reduceSub, Nat.reduceMul, Nat.zero_add, List.replicate, evK_go, reduceIte, Nat.reduceEqDiff, Nat.reduceLT, Int.zero_add]
  refine loopW (fun i : Nat => { tm := slots 24 [(0, .d (.l (l.map lnD))), (1, .d (I .i64 k)), (5, .o 0 0 (butK l k i).length), (6, .d (I .i64 i))], bx := [], rw := [some ⟨2, (butK l k i).map lnD⟩] })
    (fun i => i ≤ l.length) (fun i => l.length - i) 0 (by simp) ?_ ?_
  · refine Wkn.of [] [none] ?_
    simp (implicitDefEqProofs := false) (dsimp := false) only [butK, List.range_zero, List.filter_nil, ↓row_xs, List.set_cons_zero, List.set_cons_succ, List.map_nil, List.length_nil, Bool.and_self, Nat.reduceAdd, Nat.reduceSub, Nat.reduceMul, List.replicate, evK_go, reduceIte, Nat.reduceEqDiff, Nat.reduceLT, and_self, List.foldl_cons, List.foldl_nil, Int.cast_ofNat_Int, slots, wkL_nil, wkL_cons, wkB_nil, wkR_nil, wkR_new, wkV_j, wkV_d, nlK_nl, wkV_o, frz_d, oK_zn, reduceCtorEq]
  · intro i hi
    simp (implicitDefEqProofs := false) (dsimp := false) only [slots, ↓aw_cond, ↓aw_seq, ↓aw_reg, ↓Qseq_n, ↓ops_nil, ↓ops_cons, ↓eval_tmp, ↓put_some, ↓bK_b, ↓lenK_l, ↓binE_i, ↓bi_lss, ↓op_move, ↓op_bin, ↓op_len, ↓sl22, List.getD_cons_zero, List.getD_cons_succ, List.set_cons_zero, List.set_cons_succ, List.length_map, Nat.reduceAdd, Nat.reduceSub, Nat.reduceMul, List.replicate, evK_go, reduceIte, Nat.reduceEqDiff, Nat.reduceLT, List.foldl_cons, List.foldl_nil, Int.ofNat_lt]
    refine cdK_dec (fun h => ?_) (fun h => ?_)
    · have hlen := butK_len l k i
      simp (implicitDefEqProofs := false) (dsimp := false) only [↓cdK_not, ↓aw_cond, ↓aw_seq, ↓aw_block, ↓aw_skip, ↓aw_reg, ↓Qseq_n, ↓ops_nil, ↓ops_cons, ↓eval_tmp, ↓put_some, ↓bK_b, ↓binE_i, ↓bi_neq, ↓op_move, ↓op_bin, List.getD_cons_zero, List.getD_cons_succ, List.set_cons_zero, List.set_cons_succ, Nat.reduceAdd, Nat.reduceSub, Nat.reduceMul, evK_go, reduceIte, Nat.reduceEqDiff, Nat.reduceLT]
      refine cdK_dec (fun hb => ?_) (fun hb => ?_)
      · simp (implicitDefEqProofs := false) (dsimp := false) only [↓aw_skip, ↓aw_reg, ↓Qseq_n, ↓Qblk_n, ↓ops_nil, ↓ops_cons, ↓eval_tmp, ↓eval_int, ↓put_some, ↓binE_i, ↓bi_add, ↓in_i64, ↓op_move, ↓op_assign, ↓op_bin, List.getD_cons_zero, List.getD_cons_succ, List.set_cons_zero, List.set_cons_succ, Nat.reduceAdd, Nat.reduceSub, Nat.reduceMul, evK_go, reduceIte, Nat.reduceEqDiff, Nat.reduceLT]
        refine ⟨by omega, i + 1, by omega, by omega, ?_⟩
        refine Wkn.of [] [some 0] ?_
        simp (implicitDefEqProofs := false) (dsimp := false) only [butK_succ, hb, List.getD_cons_zero, List.set_cons_zero, List.set_cons_succ, Bool.and_self, Nat.reduceAdd, Nat.reduceSub, Nat.reduceMul, List.replicate, evK_go, reduceIte, decide_true, Bool.not_true, Nat.reduceEqDiff, Nat.reduceLT, and_self, List.foldl_cons, List.foldl_nil, Int.cast_ofNat_Int, Int.natCast_add, slots, wkL_nil, wkL_cons, wkB_nil, wkR_nil, wkR_some, wkV_j, wkV_d, wkV_o, frz_d, oK_zs, reduceCtorEq]
      · simp (implicitDefEqProofs := false) (dsimp := false) only [h, lnD_cells, ↓optK_some, ↓rwK_mk_, ↓atK_H, ↓atH_map, ↓aw_reg, ↓Qseq_n, ↓Qblk_n, ↓ops_nil, ↓ops_cons, ↓eval_tmp, ↓eval_int, ↓put_some, ↓iK_i, ↓dK_d, ↓binE_i, ↓bi_add, ↓in_i64, ↓ldK_q, ↓iaK_l, ↓op_move, ↓op_assign, ↓op_load, ↓op_bin, ↓op_ia, ↓op_append, ↓allD_nil, ↓allD_cons, ↓app_mk, ↓row_sz, ↓row_xs, kill_d, kill_j, kill_o, ↓cells_s, ↓one_i, ↓ap_, ↓ap_o, ↓src_l, ↓bs_, ↓op_bs, ↓bsL_f, ↓stored_mk, ↓sl_nil, ↓sl_cons, ↓sT_move, ↓sT_assign, ↓sT_load, ↓sT_ia, ↓sT_bs, ↓sT_call, ↓vsz_agg, ↓inO_1, ↓fm_nil, ↓fm_cons, ↓sl22, ↓ty35, ↓zb35, List.getD_cons_zero, List.getD_cons_succ, List.set_cons_zero, List.set_cons_succ, List.map_cons, List.map_nil, List.length_cons, List.length_nil, List.length_map, List.all_cons, List.all_nil, Bool.true_and, Bool.and_self, Bool.or_false, Nat.reduceAdd, Nat.reduceSub, Nat.reduceMul, Nat.zero_add, Int.toNat_natCast, evK_go, reduceIte, decide_true, Nat.reduceEqDiff, Nat.reduceLT, and_self, true_and, Int.zero_add, List.drop_zero, List.take_succ_cons, List.take_nil, Int.natCast_nonneg]
        refine ⟨by decide, ⟨rfl, by decide⟩, rfl, ⟨fun _ => trivial, by omega, by omega⟩, by omega, i + 1, by omega, by omega, ?_⟩
        refine Wkn.of [] [some 0] ?_
        simp (implicitDefEqProofs := false) (dsimp := false) only [butK_succ, hb, List.map_append, List.length_append, lnD, List.getD_cons_zero, List.set_cons_zero, List.set_cons_succ, List.map_cons, List.map_nil, List.length_cons, List.length_nil, Bool.and_self, Nat.reduceAdd, Nat.reduceSub, Nat.reduceMul, Nat.zero_add, List.replicate, evK_go, reduceIte, decide_false, Bool.not_false, Nat.reduceEqDiff, Nat.reduceLT, and_self, Int.zero_add, List.foldl_cons, List.foldl_nil, Int.cast_ofNat_Int, Int.natCast_add, slots, wkL_nil, wkL_cons, wkB_nil, wkR_nil, wkR_some, wkV_j, wkV_d, wkV_o, frz_d, oK_zs, reduceCtorEq]
    · obtain rfl : i = l.length := by omega
      simp (implicitDefEqProofs := false) (dsimp := false) only [↓optK_some, ↓rwK_mk_, ↓aw_seq, ↓aw_exit, ↓aw_ret, ↓aw_reg, ↓Qseq_n, ↓Qseq_x, ↓Qblk_x, ↓ops_nil, ↓ops_cons, ↓eval_tmp, ↓put_some, ↓op_move, ↓op_assign, ↓row_sz, ↓row_xs, ↓take_map, ↓Qrow_r, ↓rowK_o, List.getD_cons_zero, List.getD_cons_succ, List.set_cons_zero, List.set_cons_succ, Bool.true_and, Nat.reduceAdd, Nat.reduceSub, Nat.reduceMul, evK_go, reduceIte, decide_false, Nat.reduceEqDiff, Nat.reduceLT, true_and, Nat.lt_irrefl]
      rfl
theorem but_call (l : List (Int × Int)) (k : Int) (pure : Bool) (σ : St) (dst : Option Tmp) (K : St → Prop) : CallH Try.prog 41 [.l (l.map lnD), I .i64 k] pure σ dst (.mk : Hid K) = OrH ((l.length < 2 ^ 43) ∧ (pure || Res.flat (.row 2 ((butL l k).map lnD))) = true ∧ evK ((σ.addRow ⟨2, (butL l k).map lnD⟩).put dst (.o σ.rw.length 0 (List.length ((butL l k).map lnD)))) (.mk : Hid K)) (.mk : Hid (CallH Try.prog 41 [.l (l.map lnD), I .i64 k] pure σ dst (.mk : Hid K))) := CallH.eqR (fun h => but_spec l k h) pure σ dst K
theorem but_callD (l : List (Int × Int)) (k : Int) (pure : Bool) (σ : St) (dst : Option Tmp) (K : St → Prop) : CallH Try.prog 41 [.l (l.map lnD), I .i64 k] pure σ dst (.mk : Hid K) = OrH ((l.length < 2 ^ 43) ∧ (pure || D.flat (.l ((butL l k).map lnD))) = true ∧ evK (σ.put dst (.d (.l ((butL l k).map lnD)))) (.mk : Hid K)) (.mk : Hid (CallH Try.prog 41 [.l (l.map lnD), I .i64 k] pure σ dst (.mk : Hid K))) := CallH.eq (fun h => ((fun h => but_spec l k h) h).data) pure σ dst K
theorem but_callDQ (l : List (Int × Int)) (k : Int) (pure : Bool) (C : V → Prop) : CallQ Try.prog 41 [.l (l.map lnD), I .i64 k] pure (.mk : Hid C) = OrH ((l.length < 2 ^ 43) ∧ (pure || D.flat (.l ((butL l k).map lnD))) = true ∧ evK (V.d (.l ((butL l k).map lnD))) (.mk : Hid C)) (.mk : Hid (CallQ Try.prog 41 [.l (l.map lnD), I .i64 k] pure (.mk : Hid C))) := CallQ.eq (fun h => ((fun h => but_spec l k h) h).data) pure C
/-- The place of a number. -/
def place (l : List Int) (n : Int) : Int := if n ∈ l then (l.idxOf n : Nat) else -1
theorem place_at {l : List Int} {n : Int} {k : Nat} (h : k < l.length) (h0 : n ∉ l.take k) (e : l.getD k default = n) : place l n = k := by
  have hm : n ∈ l := by rw [← e]; exact getD_mem h
  unfold place
  rw [if_pos hm]
  have h1 : l = l.take k ++ n :: l.drop (k + 1) := by
    conv => lhs; rw [← List.take_append_drop k l]
    congr 1
    rw [List.drop_eq_getElem_cons h]
    congr 1
    rw [← e, List.getD_eq_getElem?_getD, List.getElem?_eq_getElem h]; rfl
  rw [h1, List.idxOf_append, if_neg h0]
  simp; omega
theorem place_spec (l : List Int) (n : Int) (hpre : l.length < 2 ^ 62) : FnD Try.prog 48 [.l (l.map (I .i64)), I .i64 n] (I .i64 (place l n)) := by
  refine FnD.go Try.func48 rfl rfl Try.results48 Try.ntmps48 ?_
  simp (implicitDefEqProofs := false) (dsimp := false) only [↓aw_seq, ↓aw_block, ↓aw_loop, ↓aw_reg, ↓Qseq_n, ↓ops_nil, ↓ops_cons, ↓eval_int, ↓put_some, ↓op_assign, List.set_cons_zero, List.set_cons_succ, List.cons_append, List.nil_append, List.map_cons, List.map_nil, List.length_cons, List.length_nil, Nat.reduceAdd, Nat.reduceSub, Nat.reduceMul, Nat.zero_add, List.replicate, evK_go, reduceIte, Nat.reduceEqDiff, Nat.reduceLT, Int.zero_add]
  refine loopW (fun k : Nat => { tm := slots 19 [(0, .d (.l (l.map (I .i64)))), (1, .d (I .i64 n)), (5, .d (I .i64 k))], bx := [], rw := [] })
    (fun k => k ≤ l.length ∧ n ∉ l.take k) (fun k => l.length - k) 0 ⟨by simp, by simp⟩ ?_ ?_
  · refine Wkn.of [] [] ?_
    simp (implicitDefEqProofs := false) (dsimp := false) only [List.set_cons_zero, List.set_cons_succ, Bool.and_self, Nat.reduceAdd, Nat.reduceSub, Nat.reduceMul, List.replicate, evK_go, reduceIte, Nat.reduceEqDiff, Nat.reduceLT, and_self, List.foldl_cons, List.foldl_nil, Int.cast_ofNat_Int, slots, wkL_nil, wkL_cons, wkB_nil, wkR_nil, wkV_j, wkV_d, frz_d, reduceCtorEq]
  · rintro k ⟨h1, h2⟩
    simp (implicitDefEqProofs := false) (dsimp := false) only [slots, ↓aw_cond, ↓aw_seq, ↓aw_reg, ↓Qseq_n, ↓ops_nil, ↓ops_cons, ↓eval_tmp, ↓put_some, ↓bK_b, ↓lenK_l, ↓binE_i, ↓bi_lss, ↓op_move, ↓op_bin, ↓op_len, ↓sl28, List.getD_cons_zero, List.getD_cons_succ, List.set_cons_zero, List.set_cons_succ, List.length_map, Nat.reduceAdd, Nat.reduceSub, Nat.reduceMul, List.replicate, evK_go, reduceIte, Nat.reduceEqDiff, Nat.reduceLT, List.foldl_cons, List.foldl_nil, Int.ofNat_lt]
    refine cdK_dec (fun h => ?_) (fun h => ?_)
    · simp (implicitDefEqProofs := false) (dsimp := false) only [h, ↓atK_H, ↓atH_map, ↓aw_cond, ↓aw_seq, ↓aw_block, ↓aw_skip, ↓aw_reg, ↓Qseq_n, ↓ops_nil, ↓ops_cons, ↓eval_tmp, ↓put_some, ↓bK_b, ↓iK_i, ↓binE_i, ↓bi_eql, ↓ldK_q, ↓iaK_l, ↓op_move, ↓op_load, ↓op_bin, ↓op_ia, ↓cells_c, ↓hd_cons, ↓ty3, ↓sl28, List.getD_cons_zero, List.getD_cons_succ, List.set_cons_zero, List.set_cons_succ, List.length_cons, List.length_nil, Bool.true_and, Nat.reduceAdd, Nat.reduceSub, Nat.reduceMul, Nat.zero_add, Int.toNat_natCast, evK_go, reduceIte, decide_true, Nat.reduceEqDiff, Nat.reduceLT, true_and, Int.zero_add, Int.natCast_nonneg]
      refine cdK_dec (fun hb => ?_) (fun hb => ?_)
      · have := place_at h h2 hb
        simp (implicitDefEqProofs := false) (dsimp := false) only [this, ↓aw_seq, ↓aw_ret, ↓aw_reg, ↓Qseq_n, ↓Qseq_r, ↓Qblk_r, ↓Qret_r, ↓ops_nil, ↓ops_cons, ↓eval_tmp, ↓put_some, ↓op_move, ↓op_assign, ↓td_d, ↓ret_1, List.getD_cons_zero, List.getD_cons_succ, List.set_cons_zero, List.set_cons_succ, Nat.reduceAdd, Nat.reduceSub, Nat.reduceMul, evK_go, reduceIte, Nat.reduceEqDiff, Nat.reduceLT]
      · simp (implicitDefEqProofs := false) (dsimp := false) only [↓aw_skip, ↓aw_reg, ↓Qseq_n, ↓Qblk_n, ↓ops_nil, ↓ops_cons, ↓eval_tmp, ↓eval_int, ↓put_some, ↓binE_i, ↓bi_add, ↓in_i64, ↓op_move, ↓op_assign, ↓op_bin, List.getD_cons_zero, List.getD_cons_succ, List.set_cons_zero, List.set_cons_succ, Nat.reduceAdd, Nat.reduceSub, Nat.reduceMul, evK_go, reduceIte, Nat.reduceEqDiff, Nat.reduceLT]
        refine ⟨by omega, k + 1, ⟨by omega, ?_⟩, by omega, ?_⟩
        · rw [take_succ_getD h, List.mem_append, List.mem_singleton]
          exact fun h' => h'.elim h2 (fun e => hb e.symm)
        · refine Wkn.of [] [] ?_
          simp (implicitDefEqProofs := false) (dsimp := false) only [List.set_cons_zero, List.set_cons_succ, Bool.and_self, Nat.reduceAdd, Nat.reduceSub, Nat.reduceMul, List.replicate, evK_go, reduceIte, Nat.reduceEqDiff, Nat.reduceLT, and_self, List.foldl_cons, List.foldl_nil, Int.cast_ofNat_Int, Int.natCast_add, slots, wkL_nil, wkL_cons, wkB_nil, wkR_nil, wkV_j, wkV_d, frz_d, reduceCtorEq]
    · obtain rfl : k = l.length := by omega
      rw [List.take_length] at h2
      have : place l n = -1 := if_neg h2
      simp (implicitDefEqProofs := false) (dsimp := false) only [this, ↓aw_seq, ↓aw_exit, ↓aw_ret, ↓aw_reg, ↓Qseq_n, ↓Qseq_x, ↓Qblk_x, ↓Qret_r, ↓ops_nil, ↓ops_cons, ↓eval_tmp, ↓eval_int, ↓put_some, ↓op_assign, ↓td_d, ↓ret_1, List.getD_cons_zero, List.getD_cons_succ, List.set_cons_zero, List.set_cons_succ, Nat.reduceAdd, Nat.reduceSub, Nat.reduceMul, evK_go, reduceIte, decide_false, Nat.reduceEqDiff, Nat.reduceLT, Nat.lt_irrefl]
theorem place_call (l : List Int) (n : Int) (pure : Bool) (σ : St) (dst : Option Tmp) (K : St → Prop) : CallH Try.prog 48 [.l (l.map (I .i64)), I .i64 n] pure σ dst (.mk : Hid K) = OrH ((l.length < 2 ^ 62) ∧ (pure || D.flat (I .i64 (place l n))) = true ∧ evK (σ.put dst (.d (I .i64 (place l n)))) (.mk : Hid K)) (.mk : Hid (CallH Try.prog 48 [.l (l.map (I .i64)), I .i64 n] pure σ dst (.mk : Hid K))) := CallH.eq (place_spec l n) pure σ dst K
theorem place_callQ (l : List Int) (n : Int) (pure : Bool) (C : V → Prop) : CallQ Try.prog 48 [.l (l.map (I .i64)), I .i64 n] pure (.mk : Hid C) = OrH ((l.length < 2 ^ 62) ∧ (pure || D.flat (I .i64 (place l n))) = true ∧ evK (V.d (I .i64 (place l n))) (.mk : Hid C)) (.mk : Hid (CallQ Try.prog 48 [.l (l.map (I .i64)), I .i64 n] pure (.mk : Hid C))) := CallQ.eq (place_spec l n) pure C
/-- How many are false. -/
def missN (l : List Bool) : Nat := l.countP fun b => !b
theorem miss_succ {l : List Bool} {k : Nat} (h : k < l.length) : missN (l.take (k + 1)) = missN (l.take k) + if l.getD k default then 0 else 1 := by
  rw [take_succ_getD h, missN, List.countP_append]
  cases l.getD k default <;> simp [missN]
theorem miss_le (l : List Bool) : missN l ≤ l.length := List.countP_le_length
theorem misses_spec (l : List Bool) (hpre : l.length < 2 ^ 62) : FnD Try.prog 34 [.l (l.map Bo)] (I .i64 (missN l : Nat)) := by
  refine FnD.go Try.func34 rfl rfl Try.results34 Try.ntmps34 ?_
  simp (implicitDefEqProofs := false) (dsimp := false) only [↓aw_seq, ↓aw_block, ↓aw_loop, ↓aw_reg, ↓Qseq_n, ↓ops_nil, ↓ops_cons, ↓eval_int, ↓put_some, ↓op_assign, List.set_cons_zero, List.set_cons_succ, List.cons_append, List.nil_append, List.map_cons, List.map_nil, List.length_cons, List.length_nil, Nat.reduceAdd, Nat.reduceSub, Nat.reduceMul, Nat.zero_add, List.replicate, evK_go, reduceIte, Nat.reduceEqDiff, Nat.reduceLT, Int.zero_add]
  refine loopW (fun k : Nat => { tm := slots 19 [(0, .d (.l (l.map Bo))), (3, .d (I .i64 (missN (l.take k) : Nat))), (4, .d (I .i64 k))], bx := [], rw := [] })
    (fun k => k ≤ l.length) (fun k => l.length - k) 0 (by simp) ?_ ?_
  · refine Wkn.of [] [] ?_
    simp (implicitDefEqProofs := false) (dsimp := false) only [missN, List.countP_nil, List.set_cons_zero, List.set_cons_succ, Bool.and_self, Nat.reduceAdd, Nat.reduceSub, Nat.reduceMul, List.replicate, evK_go, reduceIte, Nat.reduceEqDiff, Nat.reduceLT, and_self, List.take_zero, List.foldl_cons, List.foldl_nil, Int.cast_ofNat_Int, slots, wkL_nil, wkL_cons, wkB_nil, wkR_nil, wkV_j, wkV_d, frz_d, reduceCtorEq]
  · rintro k h1
    simp (implicitDefEqProofs := false) (dsimp := false) only [slots, ↓aw_cond, ↓aw_seq, ↓aw_reg, ↓Qseq_n, ↓ops_nil, ↓ops_cons, ↓eval_tmp, ↓put_some, ↓bK_b, ↓lenK_l, ↓binE_i, ↓bi_lss, ↓op_move, ↓op_bin, ↓op_len, ↓sl38, List.getD_cons_zero, List.getD_cons_succ, List.set_cons_zero, List.set_cons_succ, List.length_map, Nat.reduceAdd, Nat.reduceSub, Nat.reduceMul, List.replicate, evK_go, reduceIte, Nat.reduceEqDiff, Nat.reduceLT, List.foldl_cons, List.foldl_nil, Int.ofNat_lt]
    have hm := miss_le (l.take k)
    rw [List.length_take] at hm
    refine cdK_dec (fun h => ?_) (fun h => ?_)
    · simp (implicitDefEqProofs := false) (dsimp := false) only [h, ↓cdK_not, ↓atK_H, ↓atH_map, ↓aw_cond, ↓aw_seq, ↓aw_block, ↓aw_skip, ↓aw_reg, ↓Qseq_n, ↓ops_nil, ↓ops_cons, ↓eval_tmp, ↓put_some, ↓bK_b, ↓iK_i, ↓ldK_q, ↓iaK_l, ↓op_move, ↓op_load, ↓op_not, ↓op_ia, ↓cells_c, ↓hd_cons, ↓ty4, ↓sl38, List.getD_cons_zero, List.getD_cons_succ, List.set_cons_zero, List.set_cons_succ, List.length_cons, List.length_nil, Bool.true_and, Nat.reduceAdd, Nat.reduceSub, Nat.reduceMul, Nat.zero_add, Int.toNat_natCast, evK_go, reduceIte, decide_true, Nat.reduceEqDiff, Nat.reduceLT, true_and, Int.zero_add, Int.natCast_nonneg]
      refine cdK_split (fun hb => ?_) (fun hb => ?_)
      · simp (implicitDefEqProofs := false) (dsimp := false) only [↓aw_skip, ↓aw_reg, ↓Qseq_n, ↓Qblk_n, ↓ops_nil, ↓ops_cons, ↓eval_tmp, ↓eval_int, ↓put_some, ↓binE_i, ↓bi_add, ↓in_i64, ↓op_move, ↓op_assign, ↓op_bin, List.getD_cons_zero, List.getD_cons_succ, List.set_cons_zero, List.set_cons_succ, Nat.reduceAdd, Nat.reduceSub, Nat.reduceMul, evK_go, reduceIte, Nat.reduceEqDiff, Nat.reduceLT]
        refine ⟨by omega, k + 1, by omega, by omega, ?_⟩
        refine Wkn.of [] [] ?_
        simp (implicitDefEqProofs := false) (dsimp := false) only [miss_succ h, hb, List.set_cons_zero, List.set_cons_succ, Bool.and_self, Nat.reduceAdd, Nat.reduceSub, Nat.reduceMul, Nat.add_zero, List.replicate, evK_go, reduceIte, Bool.not_true, Nat.reduceEqDiff, Nat.reduceLT, and_self, List.foldl_cons, List.foldl_nil, Int.cast_ofNat_Int, Int.natCast_add, slots, wkL_nil, wkL_cons, wkB_nil, wkR_nil, wkV_j, wkV_d, frz_d, reduceCtorEq]
      · simp (implicitDefEqProofs := false) (dsimp := false) only [↓aw_reg, ↓Qseq_n, ↓Qblk_n, ↓ops_nil, ↓ops_cons, ↓eval_tmp, ↓eval_int, ↓put_some, ↓binE_i, ↓bi_add, ↓in_i64, ↓op_move, ↓op_assign, ↓op_bin, List.getD_cons_zero, List.getD_cons_succ, List.set_cons_zero, List.set_cons_succ, Nat.reduceAdd, Nat.reduceSub, Nat.reduceMul, evK_go, reduceIte, Nat.reduceEqDiff, Nat.reduceLT]
        refine ⟨by omega, by omega, k + 1, by omega, by omega, ?_⟩
        refine Wkn.of [] [] ?_
        simp (implicitDefEqProofs := false) (dsimp := false) only [miss_succ h, hb, Bool.false_eq_true, List.set_cons_zero, List.set_cons_succ, Bool.and_self, Nat.reduceAdd, Nat.reduceSub, Nat.reduceMul, List.replicate, evK_go, reduceIte, Bool.not_false, Nat.reduceEqDiff, Nat.reduceLT, and_self, List.foldl_cons, List.foldl_nil, Int.cast_ofNat_Int, Int.natCast_add, slots, wkL_nil, wkL_cons, wkB_nil, wkR_nil, wkV_j, wkV_d, frz_d, reduceCtorEq]
    · obtain rfl : k = l.length := by omega
      rw [List.take_length]
      simp (implicitDefEqProofs := false) (dsimp := false) only [↓aw_seq, ↓aw_exit, ↓aw_ret, ↓aw_reg, ↓Qseq_n, ↓Qseq_x, ↓Qblk_x, ↓Qret_r, ↓ops_nil, ↓ops_cons, ↓eval_tmp, ↓put_some, ↓op_move, ↓op_assign, ↓td_d, ↓ret_1, List.getD_cons_zero, List.getD_cons_succ, List.set_cons_zero, List.set_cons_succ, Nat.reduceAdd, Nat.reduceSub, Nat.reduceMul, evK_go, reduceIte, decide_false, Nat.reduceEqDiff, Nat.reduceLT, Nat.lt_irrefl]
theorem misses_call (l : List Bool) (pure : Bool) (σ : St) (dst : Option Tmp) (K : St → Prop) : CallH Try.prog 34 [.l (l.map Bo)] pure σ dst (.mk : Hid K) = OrH ((l.length < 2 ^ 62) ∧ (pure || D.flat (I .i64 (missN l : Nat))) = true ∧ evK (σ.put dst (.d (I .i64 (missN l : Nat)))) (.mk : Hid K)) (.mk : Hid (CallH Try.prog 34 [.l (l.map Bo)] pure σ dst (.mk : Hid K))) := CallH.eq (misses_spec l) pure σ dst K
theorem misses_callQ (l : List Bool) (pure : Bool) (C : V → Prop) : CallQ Try.prog 34 [.l (l.map Bo)] pure (.mk : Hid C) = OrH ((l.length < 2 ^ 62) ∧ (pure || D.flat (I .i64 (missN l : Nat))) = true ∧ evK (V.d (I .i64 (missN l : Nat))) (.mk : Hid C)) (.mk : Hid (CallQ Try.prog 34 [.l (l.map Bo)] pure (.mk : Hid C))) := CallQ.eq (misses_spec l) pure C
theorem lines_spec (n : Int) (l : List (Int × Int)) (hpre : l.length < 2 ^ 62) : FnD Try.prog 38 [I .i64 n, .l (l.map lnD)] (I .i64 (chk n l)) := by
  refine FnD.go Try.func38 rfl rfl Try.results38 Try.ntmps38 ?_
  simp (implicitDefEqProofs := false) (dsimp := false) only [↓aw_seq, ↓aw_reg, ↓Qseq_n, ↓ops_nil, ↓ops_cons, ↓eval_tmp, ↓eval_int, ↓eval_func, ↓put_some, ↓op_move, ↓op_assign, ↓op_call, isD_d, ↓fnK_f, ↓call_H, ↓callK_H, ↓allT_nil, ↓allT_cons, ↓td_d, List.getD_cons_zero, List.getD_cons_succ, List.set_cons_zero, List.set_cons_succ, List.cons_append, List.nil_append, List.append_nil, List.map_cons, List.map_nil, List.length_cons, List.length_nil, List.all_cons, List.all_nil, Bool.and_self, Nat.reduceAdd, Nat.reduceSub, Nat.reduceMul, Nat.zero_add, List.replicate, evK_go, reduceIte, Nat.reduceEqDiff, Nat.reduceLT, and_self, Int.zero_add]
  simp (implicitDefEqProofs := false) (dsimp := false) only [in1_call, ↓cdK_not, ↓aw_cond, ↓Qseq_n, ↓ops_nil, ↓ops_cons, ↓eval_tmp, ↓put_some, ↓bK_b, ↓op_not, List.getD_cons_zero, List.getD_cons_succ, List.set_cons_zero, List.set_cons_succ, Bool.true_and, Bool.true_or, Nat.reduceAdd, Nat.reduceSub, Nat.reduceMul, evK_go, reduceIte, Nat.reduceEqDiff, Nat.reduceLT, true_and]
  refine OrH.l (OrH.l (cdK_split (fun hn => ?_) (fun hn => ?_)))
  rotate_left
  · simp (implicitDefEqProofs := false) (dsimp := false) only [chk, hn, ↓aw_seq, ↓aw_ret, ↓aw_reg, ↓Qseq_n, ↓Qseq_r, ↓Qret_r, ↓ops_nil, ↓ops_cons, ↓eval_tmp, ↓eval_int, ↓put_some, ↓op_assign, ↓td_d, ↓ret_1, List.getD_cons_zero, List.getD_cons_succ, List.set_cons_zero, List.set_cons_succ, Nat.reduceAdd, Nat.reduceSub, Nat.reduceMul, evK_go, reduceIte, Bool.not_false, Nat.reduceEqDiff, Nat.reduceLT]
  simp (implicitDefEqProofs := false) (dsimp := false) only [↓aw_cond, ↓aw_seq, ↓aw_skip, ↓aw_reg, ↓Qseq_n, ↓ops_nil, ↓ops_cons, ↓eval_tmp, ↓eval_int, ↓put_some, ↓bK_b, ↓lenK_l, ↓binE_i, ↓bi_gtr, ↓op_move, ↓op_bin, ↓op_len, ↓sl22, List.getD_cons_zero, List.getD_cons_succ, List.set_cons_zero, List.set_cons_succ, List.length_map, Nat.reduceAdd, Nat.reduceSub, Nat.reduceMul, evK_go, reduceIte, Nat.reduceEqDiff, Nat.reduceLT]
  refine cdK_dec (fun h24 => ?_) (fun h24 => ?_)
  · have h24' : 24 < l.length := by omega
    simp (implicitDefEqProofs := false) (dsimp := false) only [chk, hn, h24', Bool.true_eq_false, ↓aw_seq, ↓aw_ret, ↓aw_reg, ↓Qseq_n, ↓Qseq_r, ↓Qret_r, ↓ops_nil, ↓ops_cons, ↓eval_tmp, ↓eval_int, ↓put_some, ↓op_assign, ↓td_d, ↓ret_1, List.getD_cons_zero, List.getD_cons_succ, List.set_cons_zero, List.set_cons_succ, Nat.reduceAdd, Nat.reduceSub, Nat.reduceMul, evK_go, reduceIte, Bool.not_true, Nat.reduceEqDiff, Nat.reduceLT]
  have h24' : ¬ 24 < l.length := by omega
  have hc : chk n l = firstErr (lineErr n) l := by simp [chk, hn, h24']
  rw [hc]
  simp (implicitDefEqProofs := false) (dsimp := false) only [↓aw_seq, ↓aw_block, ↓aw_skip, ↓aw_loop, ↓aw_reg, ↓Qseq_n, ↓ops_nil, ↓ops_cons, ↓eval_int, ↓put_some, ↓op_assign, List.set_cons_zero, List.set_cons_succ, Nat.reduceAdd, Nat.reduceSub, Nat.reduceMul, evK_go, reduceIte, Nat.reduceEqDiff, Nat.reduceLT]
  have hn' : 1 ≤ n ∧ n ≤ 8 := by simpa [inB] using hn
  refine loopW (fun k : Nat => { tm := slots 49 [(0, .d (I .i64 n)), (1, .d (.l (l.map lnD))), (5, .d (I .i64 k))], bx := [], rw := [] })
    (fun k => k ≤ l.length ∧ firstErr (lineErr n) (l.take k) = 0) (fun k => l.length - k) 0 ⟨by simp, by simp [firstErr]⟩ ?_ ?_
  · refine Wkn.of [] [] ?_
    simp (implicitDefEqProofs := false) (dsimp := false) only [List.set_cons_zero, List.set_cons_succ, Bool.and_self, Nat.reduceAdd, Nat.reduceSub, Nat.reduceMul, List.replicate, evK_go, reduceIte, Nat.reduceEqDiff, Nat.reduceLT, and_self, List.foldl_cons, List.foldl_nil, Int.cast_ofNat_Int, slots, wkL_nil, wkL_cons, wkB_nil, wkR_nil, wkV_j, wkV_d, frz_d, reduceCtorEq]
  · rintro k ⟨h1, h2⟩
    simp (implicitDefEqProofs := false) (dsimp := false) only [slots, ↓aw_cond, ↓aw_seq, ↓aw_reg, ↓Qseq_n, ↓ops_nil, ↓ops_cons, ↓eval_tmp, ↓put_some, ↓bK_b, ↓lenK_l, ↓binE_i, ↓bi_lss, ↓op_move, ↓op_bin, ↓op_len, ↓sl22, List.getD_cons_zero, List.getD_cons_succ, List.set_cons_zero, List.set_cons_succ, List.length_map, Nat.reduceAdd, Nat.reduceSub, Nat.reduceMul, List.replicate, evK_go, reduceIte, Nat.reduceEqDiff, Nat.reduceLT, List.foldl_cons, List.foldl_nil, Int.ofNat_lt]
    refine cdK_dec (fun h => ?_) (fun h => ?_)
    · obtain ⟨g1, g2⟩ := firstErr_take h h2
      simp (implicitDefEqProofs := false) (dsimp := false) only [h, lnD, in1_call, ↓cdK_not, ↓gdK_f, ↓gval_mk, ↓gvL_zero, ↓gvL_succ, ↓atK_H, ↓atH_map, ↓aw_seq, ↓aw_block, ↓aw_skip, ↓aw_reg, ↓Qseq_n, ↓ops_cons, ↓ops_guard, ↓eval_tmp, ↓eval_int, ↓eval_func, ↓put_some, ↓bK_b, ↓iK_i, ↓binE_i, ↓bi_sub, ↓in_i64, ↓ldK_q, ↓faK_q, ↓iaK_l, ↓op_move, ↓op_load, ↓op_bin, ↓op_not, ↓op_fa, ↓op_ia, ↓op_call, isD_d, ↓fnK_f, ↓call_H, ↓callK_H, ↓allT_nil, ↓allT_cons, ↓td_d, ↓st_tm, ↓cells_s, ↓hd_cons, ↓ty3, ↓sl22, ↓ty35, ↓fd35_0, List.getD_cons_zero, List.getD_cons_succ, List.set_cons_zero, List.set_cons_succ, List.append_nil, List.length_cons, List.length_nil, List.all_cons, List.all_nil, Bool.true_and, Bool.and_self, Bool.true_or, Nat.reduceAdd, Nat.reduceSub, Nat.reduceMul, Nat.zero_add, Int.toNat_natCast, evK_go, reduceIte, decide_true, Nat.reduceEqDiff, Nat.reduceLT, and_self, true_and, Int.zero_add, List.drop_zero, Int.natCast_nonneg]
      refine ⟨by omega, OrH.l (OrH.l (cdK_split (fun ha => ?_) (fun ha => ?_)))⟩
      rotate_left
      · have e : lineErr n (l.getD k default) = 1 := by simp (implicitDefEqProofs := false) (dsimp := false) only [lineErr, ha, Bool.false_and, reduceIte]
        rw [g2 (by rw [e]; decide), e]
        simp (implicitDefEqProofs := false) (dsimp := false) only [ha, ↓cdK_true, ↓gdK_f, ↓gval_mk, ↓gvL_zero, ↓gvL_succ, ↓aw_cond, ↓aw_seq, ↓aw_ret, ↓aw_reg, ↓Qseq_n, ↓Qseq_r, ↓Qblk_r, ↓Qret_r, ↓ops_nil, ↓ops_cons, ↓ops_guard, ↓eval_tmp, ↓eval_int, ↓eval_bool, ↓put_some, ↓bK_b, ↓op_assign, ↓op_pick, ↓td_d, ↓ret_1, ↓st_tm, List.getD_cons_zero, List.getD_cons_succ, List.set_cons_zero, List.set_cons_succ, Nat.reduceAdd, Nat.reduceSub, Nat.reduceMul, evK_go, reduceIte, Bool.not_false, Nat.reduceEqDiff, Nat.reduceLT]
      simp (implicitDefEqProofs := false) (dsimp := false) only [ha, h, lnD, in1_call, ↓cdK_false, ↓cdK_not, ↓gdK_f, ↓gval_mk, ↓gvL_zero, ↓gvL_succ, ↓atK_H, ↓atH_map, ↓aw_cond, ↓Qseq_n, ↓ops_nil, ↓ops_cons, ↓ops_guard, ↓eval_tmp, ↓eval_int, ↓eval_func, ↓put_some, ↓bK_b, ↓iK_i, ↓binE_i, ↓bi_sub, ↓in_i64, ↓ldK_q, ↓faK_q, ↓iaK_l, ↓op_move, ↓op_pick, ↓op_load, ↓op_bin, ↓op_not, ↓op_fa, ↓op_ia, ↓op_call, isD_d, ↓fnK_f, ↓call_H, ↓callK_H, ↓allT_nil, ↓allT_cons, ↓td_d, ↓st_tm, ↓cells_s, ↓hd_cons, ↓ty3, ↓sl22, ↓ty35, ↓fd35_1, List.getD_cons_zero, List.getD_cons_succ, List.set_cons_zero, List.set_cons_succ, List.append_nil, List.length_cons, List.length_nil, List.all_cons, List.all_nil, Bool.true_and, Bool.and_self, Bool.true_or, Nat.reduceAdd, Nat.reduceSub, Nat.reduceMul, Nat.zero_add, Int.toNat_natCast, evK_go, reduceIte, Bool.not_true, Nat.reduceEqDiff, Nat.reduceLT, and_self, true_and, Int.zero_add, List.drop_zero, List.drop_succ_cons, Int.natCast_nonneg]
      refine ⟨by omega, OrH.l (OrH.l (cdK_split (fun hb => ?_) (fun hb => ?_)))⟩
      · simp (implicitDefEqProofs := false) (dsimp := false) only [hb, h, lnD, ↓atK_H, ↓atH_map, ↓aw_cond, ↓aw_seq, ↓aw_skip, ↓aw_draw, ↓Qseq_n, ↓eval_tmp, ↓put_some, ↓bK_b, ↓iK_i, ↓ev_move, ↓ev_load, ↓ev_bin, ↓ev_fa, ↓ev_ia, ↓binE_i, ↓bi_eql, ↓ldK_q, ↓faK_q, ↓iaK_l, ↓draw_H, ↓h_nil, ↓h_cons, ↓ldH_n, ↓q_move, ↓q_load, ↓q_bin, ↓q_fa, ↓q_ia, ↓il_move, ↓il_load, ↓il_bin, ↓il_fa, ↓il_ia, ↓cells_s, ↓hd_cons, ↓ty3, ↓sl22, ↓ty35, ↓fd35_0, ↓fd35_1, List.getD_cons_zero, List.getD_cons_succ, List.set_cons_zero, List.set_cons_succ, List.length_cons, List.length_nil, Bool.true_and, Nat.reduceAdd, Nat.reduceSub, Nat.reduceMul, Nat.zero_add, Int.toNat_natCast, evK_go, reduceIte, Bool.not_true, Nat.reduceEqDiff, Nat.reduceLT, true_and, Int.zero_add, List.drop_zero, List.drop_succ_cons, Int.natCast_nonneg]
        refine OrH.l ⟨DrawH.of follows_mixed (by kernel_rfl), cdK_dec (fun he => ?_) (fun he => ?_)⟩
        · have e : lineErr n (l.getD k default) = 3 := by unfold lineErr; rw [ha, hb, if_neg (by decide), if_pos he]
          rw [g2 (by rw [e]; decide), e]
          simp (implicitDefEqProofs := false) (dsimp := false) only [↓aw_seq, ↓aw_ret, ↓aw_reg, ↓Qseq_n, ↓Qseq_r, ↓Qblk_r, ↓Qret_r, ↓ops_nil, ↓ops_cons, ↓eval_tmp, ↓eval_int, ↓put_some, ↓op_assign, ↓td_d, ↓ret_1, List.getD_cons_zero, List.getD_cons_succ, List.set_cons_zero, List.set_cons_succ, Nat.reduceAdd, Nat.reduceSub, Nat.reduceMul, evK_go, reduceIte, Nat.reduceEqDiff, Nat.reduceLT]
        · have e : lineErr n (l.getD k default) = 0 := by simp (implicitDefEqProofs := false) (dsimp := false) only [lineErr, ha, hb, he, Bool.and_self, reduceIte, Bool.true_eq_false]
          simp (implicitDefEqProofs := false) (dsimp := false) only [↓aw_skip, ↓aw_reg, ↓Qseq_n, ↓Qblk_n, ↓ops_nil, ↓ops_cons, ↓eval_tmp, ↓eval_int, ↓put_some, ↓binE_i, ↓bi_add, ↓in_i64, ↓op_move, ↓op_assign, ↓op_bin, List.getD_cons_zero, List.getD_cons_succ, List.set_cons_zero, List.set_cons_succ, Nat.reduceAdd, Nat.reduceSub, Nat.reduceMul, evK_go, reduceIte, Nat.reduceEqDiff, Nat.reduceLT]
          refine ⟨by omega, k + 1, ⟨by omega, g1 e⟩, by omega, ?_⟩
          refine Wkn.of [] [] ?_
          simp (implicitDefEqProofs := false) (dsimp := false) only [List.set_cons_zero, List.set_cons_succ, Bool.and_self, Nat.reduceAdd, Nat.reduceSub, Nat.reduceMul, List.replicate, evK_go, reduceIte, Nat.reduceEqDiff, Nat.reduceLT, and_self, List.foldl_cons, List.foldl_nil, Int.cast_ofNat_Int, Int.natCast_add, slots, wkL_nil, wkL_cons, wkB_nil, wkR_nil, wkV_j, wkV_d, frz_d, reduceCtorEq]
      · have e : lineErr n (l.getD k default) = 1 := by simp (implicitDefEqProofs := false) (dsimp := false) only [lineErr, hb, Bool.and_false, reduceIte]
        rw [g2 (by rw [e]; decide), e]
        simp (implicitDefEqProofs := false) (dsimp := false) only [hb, ↓aw_seq, ↓aw_ret, ↓aw_reg, ↓Qseq_n, ↓Qseq_r, ↓Qblk_r, ↓Qret_r, ↓ops_nil, ↓ops_cons, ↓eval_tmp, ↓eval_int, ↓put_some, ↓op_assign, ↓td_d, ↓ret_1, List.getD_cons_zero, List.getD_cons_succ, List.set_cons_zero, List.set_cons_succ, Nat.reduceAdd, Nat.reduceSub, Nat.reduceMul, evK_go, reduceIte, Bool.not_false, Nat.reduceEqDiff, Nat.reduceLT]
    · obtain rfl : k = l.length := by omega
      rw [List.take_length] at h2
      simp (implicitDefEqProofs := false) (dsimp := false) only [h2, ↓aw_seq, ↓aw_exit, ↓aw_ret, ↓aw_reg, ↓Qseq_n, ↓Qseq_x, ↓Qblk_x, ↓Qret_r, ↓ops_nil, ↓ops_cons, ↓eval_tmp, ↓eval_int, ↓put_some, ↓op_assign, ↓td_d, ↓ret_1, List.getD_cons_zero, List.getD_cons_succ, List.set_cons_zero, List.set_cons_succ, Nat.reduceAdd, Nat.reduceSub, Nat.reduceMul, evK_go, reduceIte, decide_false, Nat.reduceEqDiff, Nat.reduceLT, Nat.lt_irrefl]
theorem lines_call (n : Int) (l : List (Int × Int)) (pure : Bool) (σ : St) (dst : Option Tmp) (K : St → Prop) : CallH Try.prog 38 [I .i64 n, .l (l.map lnD)] pure σ dst (.mk : Hid K) = OrH ((l.length < 2 ^ 62) ∧ (pure || D.flat (I .i64 (chk n l))) = true ∧ evK (σ.put dst (.d (I .i64 (chk n l)))) (.mk : Hid K)) (.mk : Hid (CallH Try.prog 38 [I .i64 n, .l (l.map lnD)] pure σ dst (.mk : Hid K))) := CallH.eq (lines_spec n l) pure σ dst K
theorem lines_callQ (n : Int) (l : List (Int × Int)) (pure : Bool) (C : V → Prop) : CallQ Try.prog 38 [I .i64 n, .l (l.map lnD)] pure (.mk : Hid C) = OrH ((l.length < 2 ^ 62) ∧ (pure || D.flat (I .i64 (chk n l))) = true ∧ evK (V.d (I .i64 (chk n l))) (.mk : Hid C)) (.mk : Hid (CallQ Try.prog 38 [I .i64 n, .l (l.map lnD)] pure (.mk : Hid C))) := CallQ.eq (lines_spec n l) pure C
end Go.Proofs

namespace Go.Proofs
open Go.Aw
set_option linter.unusedSimpArgs false
set_option maxRecDepth 10000
def cfL : List (Int × Int) := [(0, 1), (1, 2), (0, 2)]
theorem cf1_spec  : FnD Try.prog 37 [I .i64 3, .l [.s [I .i64 0, I .i64 1], .s [I .i64 1, I .i64 2], .s [I .i64 0, I .i64 2]]] (.t [.l [.l [I .i64 1, I .i64 2], .l [I .i64 2], .l []], erD 0]) := by
  have h := call_spec 3 cfL (by decide)
  rw [show closeAll 3 cfL = [[1, 2], [2], []] by decide +kernel, show chk 3 cfL = 0 by decide +kernel] at h
  exact h
theorem cf1_call  (pure : Bool) (σ : St) (dst : Option Tmp) (K : St → Prop) : CallH Try.prog 37 [I .i64 3, .l [.s [I .i64 0, I .i64 1], .s [I .i64 1, I .i64 2], .s [I .i64 0, I .i64 2]]] pure σ dst (.mk : Hid K) = OrH ((pure || D.flat (.t [.l [.l [I .i64 1, I .i64 2], .l [I .i64 2], .l []], erD 0])) = true ∧ evK (σ.put dst (.d (.t [.l [.l [I .i64 1, I .i64 2], .l [I .i64 2], .l []], erD 0]))) (.mk : Hid K)) (.mk : Hid (CallH Try.prog 37 [I .i64 3, .l [.s [I .i64 0, I .i64 1], .s [I .i64 1, I .i64 2], .s [I .i64 0, I .i64 2]]] pure σ dst (.mk : Hid K))) := CallH.eq0 (cf1_spec ) pure σ dst K
theorem cf1_callQ  (pure : Bool) (C : V → Prop) : CallQ Try.prog 37 [I .i64 3, .l [.s [I .i64 0, I .i64 1], .s [I .i64 1, I .i64 2], .s [I .i64 0, I .i64 2]]] pure (.mk : Hid C) = OrH ((pure || D.flat (.t [.l [.l [I .i64 1, I .i64 2], .l [I .i64 2], .l []], erD 0])) = true ∧ evK (V.d (.t [.l [.l [I .i64 1, I .i64 2], .l [I .i64 2], .l []], erD 0])) (.mk : Hid C)) (.mk : Hid (CallQ Try.prog 37 [I .i64 3, .l [.s [I .i64 0, I .i64 1], .s [I .i64 1, I .i64 2], .s [I .i64 0, I .i64 2]]] pure (.mk : Hid C))) := CallQ.eq0 (cf1_spec ) pure C
theorem cf2_spec  : FnD Try.prog 40 [I .i64 3, .l [.s [I .i64 0, I .i64 1], .s [I .i64 1, I .i64 2], .s [I .i64 0, I .i64 2]]] (.t [.l [.s [I .i64 0, I .i64 1], .s [I .i64 1, I .i64 2]], erD 0]) := by
  have h := few_spec 3 cfL (by decide)
  rw [show fewR 3 cfL = [(0, 1), (1, 2)] by decide +kernel, show topoE 3 cfL = 0 by decide +kernel] at h
  exact h
theorem cf2_call  (pure : Bool) (σ : St) (dst : Option Tmp) (K : St → Prop) : CallH Try.prog 40 [I .i64 3, .l [.s [I .i64 0, I .i64 1], .s [I .i64 1, I .i64 2], .s [I .i64 0, I .i64 2]]] pure σ dst (.mk : Hid K) = OrH ((pure || D.flat (.t [.l [.s [I .i64 0, I .i64 1], .s [I .i64 1, I .i64 2]], erD 0])) = true ∧ evK (σ.put dst (.d (.t [.l [.s [I .i64 0, I .i64 1], .s [I .i64 1, I .i64 2]], erD 0]))) (.mk : Hid K)) (.mk : Hid (CallH Try.prog 40 [I .i64 3, .l [.s [I .i64 0, I .i64 1], .s [I .i64 1, I .i64 2], .s [I .i64 0, I .i64 2]]] pure σ dst (.mk : Hid K))) := CallH.eq0 (cf2_spec ) pure σ dst K
theorem cf2_callQ  (pure : Bool) (C : V → Prop) : CallQ Try.prog 40 [I .i64 3, .l [.s [I .i64 0, I .i64 1], .s [I .i64 1, I .i64 2], .s [I .i64 0, I .i64 2]]] pure (.mk : Hid C) = OrH ((pure || D.flat (.t [.l [.s [I .i64 0, I .i64 1], .s [I .i64 1, I .i64 2]], erD 0])) = true ∧ evK (V.d (.t [.l [.s [I .i64 0, I .i64 1], .s [I .i64 1, I .i64 2]], erD 0])) (.mk : Hid C)) (.mk : Hid (CallQ Try.prog 40 [I .i64 3, .l [.s [I .i64 0, I .i64 1], .s [I .i64 1, I .i64 2], .s [I .i64 0, I .i64 2]]] pure (.mk : Hid C))) := CallQ.eq0 (cf2_spec ) pure C
theorem cf3_spec  : FnD Try.prog 39 [.l [.l [I .i64 1, I .i64 2], .l [I .i64 2], .l []], .l [.l [I .i64 1, I .i64 2], .l [I .i64 2], .l []]] (Bo true) := by
  have h := erows_spec [[1, 2], [2], []] [[1, 2], [2], []] (by decide)
  exact h
theorem cf3_call  (pure : Bool) (σ : St) (dst : Option Tmp) (K : St → Prop) : CallH Try.prog 39 [.l [.l [I .i64 1, I .i64 2], .l [I .i64 2], .l []], .l [.l [I .i64 1, I .i64 2], .l [I .i64 2], .l []]] pure σ dst (.mk : Hid K) = OrH ((pure || D.flat (Bo true)) = true ∧ evK (σ.put dst (.d (Bo true))) (.mk : Hid K)) (.mk : Hid (CallH Try.prog 39 [.l [.l [I .i64 1, I .i64 2], .l [I .i64 2], .l []], .l [.l [I .i64 1, I .i64 2], .l [I .i64 2], .l []]] pure σ dst (.mk : Hid K))) := CallH.eq0 (cf3_spec ) pure σ dst K
theorem cf3_callQ  (pure : Bool) (C : V → Prop) : CallQ Try.prog 39 [.l [.l [I .i64 1, I .i64 2], .l [I .i64 2], .l []], .l [.l [I .i64 1, I .i64 2], .l [I .i64 2], .l []]] pure (.mk : Hid C) = OrH ((pure || D.flat (Bo true)) = true ∧ evK (V.d (Bo true)) (.mk : Hid C)) (.mk : Hid (CallQ Try.prog 39 [.l [.l [I .i64 1, I .i64 2], .l [I .i64 2], .l []], .l [.l [I .i64 1, I .i64 2], .l [I .i64 2], .l []]] pure (.mk : Hid C))) := CallQ.eq0 (cf3_spec ) pure C
theorem cf4_spec  : FnD Try.prog 61 [.l [.s [I .i64 0, I .i64 1], .s [I .i64 1, I .i64 2]], .l [.s [I .i64 0, I .i64 1], .s [I .i64 1, I .i64 2]]] (Bo true) := by
  have h := elines_spec [(0, 1), (1, 2)] [(0, 1), (1, 2)] (by decide)
  exact h
theorem cf4_call  (pure : Bool) (σ : St) (dst : Option Tmp) (K : St → Prop) : CallH Try.prog 61 [.l [.s [I .i64 0, I .i64 1], .s [I .i64 1, I .i64 2]], .l [.s [I .i64 0, I .i64 1], .s [I .i64 1, I .i64 2]]] pure σ dst (.mk : Hid K) = OrH ((pure || D.flat (Bo true)) = true ∧ evK (σ.put dst (.d (Bo true))) (.mk : Hid K)) (.mk : Hid (CallH Try.prog 61 [.l [.s [I .i64 0, I .i64 1], .s [I .i64 1, I .i64 2]], .l [.s [I .i64 0, I .i64 1], .s [I .i64 1, I .i64 2]]] pure σ dst (.mk : Hid K))) := CallH.eq0 (cf4_spec ) pure σ dst K
theorem cf4_callQ  (pure : Bool) (C : V → Prop) : CallQ Try.prog 61 [.l [.s [I .i64 0, I .i64 1], .s [I .i64 1, I .i64 2]], .l [.s [I .i64 0, I .i64 1], .s [I .i64 1, I .i64 2]]] pure (.mk : Hid C) = OrH ((pure || D.flat (Bo true)) = true ∧ evK (V.d (Bo true)) (.mk : Hid C)) (.mk : Hid (CallQ Try.prog 61 [.l [.s [I .i64 0, I .i64 1], .s [I .i64 1, I .i64 2]], .l [.s [I .i64 0, I .i64 1], .s [I .i64 1, I .i64 2]]] pure (.mk : Hid C))) := CallQ.eq0 (cf4_spec ) pure C
theorem cfact_spec  : FnD Try.prog 36 [] (Bo true) := by
  refine FnD.go Try.func36 rfl rfl Try.results36 Try.ntmps36 ?_
  simp (implicitDefEqProofs := false) (dsimp := false) only [↓aw_seq, ↓aw_reg, ↓Qseq_n, ↓ops_nil, ↓ops_cons, ↓eval_tmp, ↓eval_int, ↓eval_bool, ↓eval_func, ↓put_some, ↓dK_d, ↓op_move, ↓op_assign, ↓op_build, ↓op_call, isD_d, ↓fnK_f, ↓call_H, ↓callK_H, ↓allT_nil, ↓allT_cons, ↓allD_nil, ↓allD_cons, ↓td_d, ↓cells_c, ↓cells_s, ↓one_i, ↓bs_, ↓op_bs, ↓bsL_f, ↓stored_mk, ↓sl_nil, ↓sl_cons, ↓sT_assign, ↓sT_build, ↓sT_bs, ↓vsz_agg, ↓inO_3, ↓fm_nil, ↓fm_cons, ↓sl22, ↓ty35, ↓zb35, ↓bd35, List.getD_cons_zero, List.getD_cons_succ, List.set_cons_zero, List.set_cons_succ, List.cons_append, List.nil_append, List.append_nil, List.map_cons, List.map_nil, List.length_cons, List.length_nil, List.all_cons, List.all_nil, Bool.true_and, Bool.and_self, Bool.or_false, Nat.reduceAdd, Nat.reduceSub, Nat.reduceMul, Nat.zero_add, List.replicate, evK_go, reduceIte, Nat.reduceEqDiff, Nat.reduceLT, and_self, true_and, Int.zero_add]
  simp (implicitDefEqProofs := false) (dsimp := false) only [cf1_call, cf2_call, cf3_call, cf4_call, eval_nilI, ↓er_eql, ↓cdK_true, ↓gdK_t, ↓gval_mk, ↓gvL_zero, ↓gvL_succ, ↓nthK_H, ↓nthH_zero, ↓nthH_succ, ↓aw_seq, ↓aw_ret, ↓aw_reg, ↓Qseq_n, ↓Qret_r, ↓ops_nil, ↓ops_cons, ↓ops_guard, ↓eval_tmp, ↓eval_int, ↓eval_func, ↓put_some, ↓bK_b, ↓dK_d, ↓tK_t, ↓op_move, ↓op_assign, ↓op_pick, ↓op_bin, ↓op_extract, ↓op_build, ↓op_call, ↓orH_T, isD_d, ↓fnK_f, ↓call_H, ↓callK_H, ↓allT_nil, ↓allT_cons, ↓allD_nil, ↓allD_cons, ↓td_d, ↓ret_1, ↓st_tm, ↓cells_c, ↓cells_s, ↓cells_l, ↓one_i, ↓one_l, ↓bs_, ↓op_bs, ↓bsL_f, ↓stored_mk, ↓sl_nil, ↓sl_cons, ↓sT_move, ↓sT_assign, ↓sT_pick, ↓sT_bin, ↓sT_build, ↓sT_bs, ↓sT_call, ↓vsz_int, ↓vsz_slice, ↓vsz_agg, ↓inO_1, ↓inO_2, ↓inO_3, ↓fm_nil, ↓fm_cons, ↓ty3, ↓zb3, ↓sl22, ↓ty28, ↓sl28, ↓zb28, ↓ty35, ↓zb35, ↓bd35, ↓sl44, List.getD_cons_zero, List.getD_cons_succ, List.set_cons_zero, List.set_cons_succ, List.cons_append, List.nil_append, List.append_nil, List.map_cons, List.map_nil, List.length_cons, List.length_nil, List.all_cons, List.all_nil, Bool.and_true, Bool.true_and, Bool.and_self, Bool.true_or, Bool.or_false, Nat.reduceAdd, Nat.reduceSub, Nat.reduceMul, Nat.zero_add, evK_go, reduceIte, decide_true, Nat.reduceEqDiff, Nat.reduceLT, and_self, true_and, and_true, Int.zero_add]
  exact ⟨⟨rfl, by decide⟩, OrH.l (OrH.l (OrH.l (OrH.l ⟨by decide, by decide, ⟨rfl, by decide⟩, by decide, OrH.l (OrH.l ⟨rfl, by decide⟩)⟩)))⟩
theorem cfact_call  (pure : Bool) (σ : St) (dst : Option Tmp) (K : St → Prop) : CallH Try.prog 36 [] pure σ dst (.mk : Hid K) = OrH ((pure || D.flat (Bo true)) = true ∧ evK (σ.put dst (.d (Bo true))) (.mk : Hid K)) (.mk : Hid (CallH Try.prog 36 [] pure σ dst (.mk : Hid K))) := CallH.eq0 (cfact_spec ) pure σ dst K
theorem cfact_callQ  (pure : Bool) (C : V → Prop) : CallQ Try.prog 36 [] pure (.mk : Hid C) = OrH ((pure || D.flat (Bo true)) = true ∧ evK (V.d (Bo true)) (.mk : Hid C)) (.mk : Hid (CallQ Try.prog 36 [] pure (.mk : Hid C))) := CallQ.eq0 (cfact_spec ) pure C
end Go.Proofs
