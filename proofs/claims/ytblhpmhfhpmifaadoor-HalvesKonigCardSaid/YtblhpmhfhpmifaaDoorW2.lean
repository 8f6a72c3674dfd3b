/- Part W 2 of what the proof of HalvesKonig stands on: what the functions of the program compute. -/
import Derived.Test.YtblhpmhfhpmifaaDoorW1
import Derived.WalkKit
import Derived.LaidEql
import Derived.Stop.Asserts
import Derived.RowKitTokens
import Derived.Test.YtblhpmhfhpmifaaDoorRows
import Derived.ProofKit
import Derived.LaidLaws
import Derived.LaidHandle
import Derived.Stop.Joined
import Derived.SevenTiedAt
import Derived.JoinedOf
import Derived.JoinedCond
import Derived.SizedLaws
import Derived.ReadAgain
import Derived.Deep.SlicePairs
import Derived.Deep.Matrix
import Derived.Lib.SmallJoins
set_option linter.unusedVariables false
set_option linter.unusedSimpArgs false
namespace Go.Proofs
open Go.Aw
set_option linter.unusedSimpArgs false
set_option maxRecDepth 10000
def strongR (n : Int) (l : List (Int × Int)) : List Nat := if chk n l = 0 then strongP n.toNat (natL l) else []
theorem sparts_spec (n : Int) (l : List (Int × Int)) (hpre : l.length < 2 ^ 62) : FnD Tryd.prog 58 [I .i64 n, .l (l.map lnD)] (.t [.l ((strongR n l).map nD), erD (chk n l)]) := by
  refine FnD.go Tryd.func58 rfl rfl Tryd.results58 Tryd.ntmps58 ?_
  simp (implicitDefEqProofs := false) (dsimp := false) only [↓aw_seq, ↓aw_reg, ↓Qseq_n, ↓ops_nil, ↓ops_cons, ↓eval_tmp, ↓eval_nil, ↓eval_func, ↓put_some, ↓op_move, ↓op_assign, ↓op_call, isD_d, ↓fnK_f, ↓call_H, ↓callK_H, ↓allT_nil, ↓allT_cons, ↓td_d, List.getD_cons_zero, List.getD_cons_succ, List.set_cons_zero, List.set_cons_succ, List.cons_append, List.nil_append, List.append_nil, List.map_cons, List.map_nil, List.length_cons, List.length_nil, List.all_cons, List.all_nil, Bool.and_self, Nat.reduceAdd, Nat.reduceSub, Nat.reduceMul, Nat.zero_add, List.replicate, evK_go, reduceIte, Nat.reduceEqDiff, Nat.reduceLT, and_self, Int.zero_add]
  simp (implicitDefEqProofs := false) (dsimp := false) only [gcheck_call, eval_nilI, ↓er_neq, er_flat, ↓cdK_not, ↓aw_cond, ↓aw_seq, ↓aw_reg, ↓Qseq_n, ↓ops_nil, ↓ops_cons, ↓eval_tmp, ↓put_some, ↓bK_b, ↓op_move, ↓op_assign, ↓op_bin, List.getD_cons_zero, List.getD_cons_succ, List.set_cons_zero, List.set_cons_succ, Bool.true_and, Bool.or_true, Nat.reduceAdd, Nat.reduceSub, Nat.reduceMul, evK_go, reduceIte, Nat.reduceEqDiff, Nat.reduceLT, true_and]
  refine OrH.l (OrH.l ⟨hpre, ?_⟩)
  refine cdK_dec (fun hc => ?_) (fun hc => ?_)
  rotate_left
  · simp (implicitDefEqProofs := false) (dsimp := false) only [strongR, hc, ↓aw_seq, ↓aw_ret, ↓aw_reg, ↓Qseq_n, ↓Qseq_r, ↓Qret_r, ↓ops_nil, ↓ops_cons, ↓eval_tmp, ↓eval_nil, ↓put_some, ↓op_move, ↓op_assign, ↓td_d, ↓td_nl, ↓ret_2, List.getD_cons_zero, List.getD_cons_succ, List.set_cons_zero, List.set_cons_succ, List.map_nil, Nat.reduceAdd, Nat.reduceSub, Nat.reduceMul, evK_go, reduceIte, decide_false, Bool.not_false, Nat.reduceEqDiff, Nat.reduceLT]
  have ok := chk_ok hc
  rw [show strongR n l = strongP n.toNat (natL l) from if_pos hc, lnD_nat ok.rng, hc]
  have hout := ok.out
  have hg := ok.good
  have h8 := ok.hi
  have h24 : (natL l).length ≤ 24 := by rw [natL_len]; exact ok.len
  have e0 := ok.n0
  clear ok hc hpre
  generalize n.toNat = m at *
  subst e0
  generalize natL l = L at *
  simp (implicitDefEqProofs := false) (dsimp := false) only [out_callD, hout, ↓aw_seq, ↓aw_block, ↓aw_skip, ↓aw_loop, ↓aw_reg, ↓Qseq_n, ↓ops_nil, ↓ops_cons, ↓eval_tmp, ↓eval_int, ↓eval_nil, ↓eval_func, ↓put_some, ↓lenK_l, ↓op_move, ↓op_assign, ↓op_len, ↓op_call, isD_d, ↓fnK_f, ↓call_H, ↓callK_H, ↓allT_nil, ↓allT_cons, ↓td_d, ↓sl22, List.getD_cons_zero, List.getD_cons_succ, List.set_cons_zero, List.set_cons_succ, List.append_nil, List.length_map, List.all_cons, List.all_nil, Bool.true_and, Bool.and_self, Bool.true_or, Nat.reduceAdd, Nat.reduceSub, Nat.reduceMul, evK_go, reduceIte, decide_true, Bool.not_true, Nat.reduceEqDiff, Nat.reduceLT, and_self, true_and]
  refine OrH.l (OrH.l ⟨hout.2.2, ?_⟩)
  refine loopW (fun k : Nat => { tm := slots 66 [(0, .d (I .i64 (m : Int))), (7, .d (.l ((outS m L).map U))), (8, .o 0 0 k), (24, .d (.l (L.map lnN))), (25, .d (I .i64 L.length)), (26, .d (I .i64 k))], bx := [], rw := [some ⟨2, ((L.take k).map flip).map lnN⟩] })
    (fun k => k ≤ L.length) (fun k => L.length - k) 0 (by simp) ?_ ?_
  · refine Wkn.of [] [none] ?_
    simp (implicitDefEqProofs := false) (dsimp := false) only [↓row_xs, List.set_cons_zero, List.set_cons_succ, List.map_nil, Bool.and_self, Nat.reduceAdd, Nat.reduceSub, Nat.reduceMul, List.replicate, evK_go, reduceIte, Nat.reduceEqDiff, Nat.reduceLT, and_self, List.take_zero, List.foldl_cons, List.foldl_nil, Int.cast_ofNat_Int, slots, wkL_nil, wkL_cons, wkB_nil, wkR_nil, wkR_new, wkV_j, wkV_d, nlK_nl, wkV_o, frz_d, oK_zn, reduceCtorEq]
  · intro k hk
    simp (implicitDefEqProofs := false) (dsimp := false) only [slots, ↓aw_cond, ↓aw_seq, ↓aw_reg, ↓Qseq_n, ↓ops_nil, ↓ops_cons, ↓eval_tmp, ↓put_some, ↓bK_b, ↓binE_i, ↓bi_lss, ↓op_bin, List.getD_cons_zero, List.getD_cons_succ, List.set_cons_zero, List.set_cons_succ, Nat.reduceAdd, Nat.reduceSub, Nat.reduceMul, List.replicate, evK_go, reduceIte, Nat.reduceEqDiff, Nat.reduceLT, List.foldl_cons, List.foldl_nil, Int.ofNat_lt]
    refine cdK_dec (fun h => ?_) (fun h => ?_)
    · simp (implicitDefEqProofs := false) (dsimp := false) only [h, lnN, ↓optK_some, ↓rwK_mk_, ↓atK_H, ↓atH_map, ↓nthK_H, ↓nthH_zero, ↓nthH_succ, ↓aw_seq, ↓aw_block, ↓aw_skip, ↓aw_reg, ↓Qseq_n, ↓Qblk_n, ↓ops_nil, ↓ops_cons, ↓eval_tmp, ↓eval_int, ↓put_some, ↓put_none, ↓iK_i, ↓dK_d, ↓binE_i, ↓bi_add, ↓in_i64, ↓ldK_q, ↓ldK_p, ↓faK_p, ↓iaK_l, ↓op_move, ↓op_assign, ↓op_load, ↓op_bin, ↓op_fa, ↓op_ia, ↓op_build, ↓op_append, ↓op_alloc, ↓op_store, ↓allD_nil, ↓allD_cons, ↓addBox_mk, ↓setBox_mk, ↓app_mk, ↓st_bx, ↓row_sz, ↓row_xs, kill_d, kill_j, kill_p, kill_o, ↓cells_c, ↓cells_s, ↓vcells_s, ↓one_i, ↓vone_d, constV_a, ↓st_p, ↓ap_, ↓ap_o, ↓src_l, ↓bs_, ↓op_bs, ↓bsL_f, ↓stored_mk, ↓sl_nil, ↓sl_cons, ↓sT_move, ↓sT_assign, ↓sT_load, ↓sT_fa, ↓sT_build, ↓sT_bs, ↓sT_call, ↓vsz_agg, ↓inO_1, ↓fm_nil, ↓fm_cons, ↓ty3, ↓sl22, ↓ty41, ↓zb41, ↓fd41_0, ↓fd41_1, ↓bd41, List.getD_cons_zero, List.getD_cons_succ, List.set_cons_zero, List.set_cons_succ, List.cons_append, List.nil_append, List.map_cons, List.map_nil, List.length_cons, List.length_nil, List.length_map, List.all_cons, List.all_nil, Bool.true_and, Bool.and_self, Bool.or_false, Nat.reduceAdd, Nat.reduceSub, Nat.reduceMul, Nat.zero_add, Nat.add_zero, Int.toNat_natCast, evK_go, reduceIte, decide_true, Nat.reduceEqDiff, Nat.reduceLT, and_self, true_and, Int.zero_add, List.drop_zero, List.take_succ_cons, List.take_nil, Int.natCast_nonneg]
      refine ⟨by decide, ⟨rfl, by decide⟩, rfl, ⟨fun _ => trivial, by simp; omega, by omega, by omega⟩, by omega, k + 1, by omega, by omega, ?_⟩
      refine Wkn.of [] [some 0] ?_
      simp (implicitDefEqProofs := false) (dsimp := false) only [take_succ_getD h, List.map_append, lnN, flip, List.getD_cons_zero, List.set_cons_zero, List.set_cons_succ, List.map_cons, List.map_nil, Bool.and_self, Nat.reduceAdd, Nat.reduceSub, Nat.reduceMul, List.replicate, evK_go, reduceIte, Nat.reduceEqDiff, Nat.reduceLT, and_self, List.foldl_cons, List.foldl_nil, Int.cast_ofNat_Int, Int.natCast_add, slots, wkL_nil, wkL_cons, wkB_nil, wkR_nil, wkR_some, wkV_j, wkV_d, wkV_o, frz_d, oK_zs, reduceCtorEq]
    · obtain rfl : k = L.length := by omega
      have e : List.take L.length (List.map lnN (List.map flip L)) = (L.map flip).map lnN := List.take_of_length_le (by simp)
      have hout2 : m ≤ 64 ∧ (L.map flip).length < 2 ^ 62 ∧ ∀ p ∈ L.map flip, p.1 < m ∧ p.2 < 64 := ⟨by omega, by simp; omega, fun p hp => by have := hg.flip p hp; omega⟩
      simp (implicitDefEqProofs := false) (dsimp := false) only [List.take_length, e, out_call, hout2, rflat_U, ↓optK_some, ↓rwK_mk_, ↓aw_seq, ↓aw_block, ↓aw_exit, ↓aw_loop, ↓aw_reg, ↓Qseq_n, ↓Qseq_x, ↓Qblk_x, ↓ops_nil, ↓ops_cons, ↓eval_tmp, ↓eval_int, ↓eval_nil, ↓eval_func, ↓put_some, ↓op_move, ↓op_assign, ↓op_call, isD_d, isD_o, ↓fnK_f, ↓call_H, ↓callK_H, ↓allT_nil, ↓allT_cons, ↓td_d, ↓td_o, ↓addRow_mk, ↓st_rw, ↓row_xs, List.getD_cons_zero, List.getD_cons_succ, List.set_cons_zero, List.set_cons_succ, List.cons_append, List.nil_append, List.append_nil, List.length_cons, List.length_nil, List.length_map, List.all_cons, List.all_nil, Bool.and_true, Bool.true_and, Bool.and_false, Bool.or_true, Nat.reduceAdd, Nat.reduceSub, Nat.reduceMul, Nat.zero_add, evK_go, reduceIte, decide_false, Nat.reduceEqDiff, Nat.reduceLT, true_and, and_true, Nat.lt_irrefl, Int.zero_add, List.drop_zero]
      refine OrH.l (OrH.l ⟨⟨hout.2.1, hout2.2.2⟩, ?_⟩)
      refine loopW (fun k : Nat => { tm := slots 66 [(0, .d (I .i64 (m : Int))), (7, .d (.l ((outS m L).map U))), (11, .d (.l ((outS m (L.map flip)).map U))), (12, .o 0 0 k), (42, .d (I .i64 (m : Int))), (43, .d (I .i64 k))], bx := [], rw := [some ⟨1, (((List.range m).take k).map (part m L)).map nD⟩] })
        (fun k => k ≤ m) (fun k => m - k) 0 (by simp) ?_ ?_
      · refine Wkn.of [] [none] ?_
        simp (implicitDefEqProofs := false) (dsimp := false) only [↓optK_some, ↓row_xs, ↓take_map, List.getD_cons_zero, List.getD_cons_succ, List.set_cons_zero, List.set_cons_succ, List.map_nil, Bool.and_self, Nat.reduceAdd, Nat.reduceSub, Nat.reduceMul, List.replicate, evK_go, reduceIte, Nat.reduceEqDiff, Nat.reduceLT, and_self, not_false_eq_true, List.drop_zero, List.take_zero, List.foldl_cons, List.foldl_nil, Int.cast_ofNat_Int, slots, wkL_nil, wkL_cons, wkB_nil, wkR_nil, wkR_new, wkV_j, wkV_d, nlK_nl, wkV_o, frz_d, frz_o, oK_zn, dl_eq, reduceCtorEq, List.mem_cons, List.not_mem_nil, or_self]
      · intro k hk
        simp (implicitDefEqProofs := false) (dsimp := false) only [slots, ↓aw_cond, ↓aw_seq, ↓aw_reg, ↓Qseq_n, ↓ops_nil, ↓ops_cons, ↓eval_tmp, ↓put_some, ↓bK_b, ↓binE_i, ↓bi_lss, ↓op_bin, List.getD_cons_zero, List.getD_cons_succ, List.set_cons_zero, List.set_cons_succ, Nat.reduceAdd, Nat.reduceSub, Nat.reduceMul, List.replicate, evK_go, reduceIte, Nat.reduceEqDiff, Nat.reduceLT, List.foldl_cons, List.foldl_nil, Int.ofNat_lt]
        refine cdK_dec (fun h => ?_) (fun h => ?_)
        · simp (implicitDefEqProofs := false) (dsimp := false) only [h, below_call, reach_call, list_callD, ↓optK_some, ↓rwK_mk_, ↓atK_H, ↓atH_map, ↓aw_seq, ↓aw_block, ↓aw_skip, ↓aw_reg, ↓Qseq_n, ↓Qblk_n, ↓ops_nil, ↓ops_cons, ↓eval_tmp, ↓eval_int, ↓eval_func, ↓put_some, ↓iK_i, ↓dK_d, ↓binE_i, ↓bi_add, ↓bi_and, ↓in_i64, ↓ldK_q, ↓iaK_l, ↓op_move, ↓op_assign, ↓op_load, ↓op_bin, ↓op_ia, ↓op_append, ↓op_call, isD_d, ↓fnK_f, ↓call_H, ↓callK_H, ↓allT_nil, ↓allT_cons, ↓allD_nil, ↓allD_cons, ↓td_d, ↓app_mk, ↓row_sz, ↓row_xs, kill_d, kill_j, kill_o, ↓cells_c, ↓one_i, ↓ap_, ↓ap_o, ↓src_l, ↓bs_, ↓op_bs, ↓bsL_f, ↓stored_mk, ↓sl_nil, ↓sl_cons, ↓sT_move, ↓sT_assign, ↓sT_load, ↓sT_ia, ↓sT_bs, ↓sT_call, ↓vsz_int, ↓inO_1, ↓fm_nil, ↓fm_cons, ↓hd_cons, ↓ty3, ↓zb3, ↓sl24, List.getD_cons_zero, List.getD_cons_succ, List.set_cons_zero, List.set_cons_succ, List.append_nil, List.map_cons, List.map_nil, List.length_cons, List.length_nil, List.length_map, List.all_cons, List.all_nil, Bool.true_and, Bool.and_self, Bool.true_or, Bool.or_false, Nat.reduceAdd, Nat.reduceSub, Nat.reduceMul, Nat.zero_add, Int.toNat_zero, evK_go, reduceIte, decide_true, Nat.reduceEqDiff, Nat.reduceLT, and_self, true_and, Int.zero_add, List.drop_zero]
          have h1 := outS_len m L
          have h2 := outS_len m (L.map flip)
          have h3 := both_lt (n := m) (by omega) hg h
          have hp := part_pts (n := m) (by omega) hg h
          have hpos : 0 < (pts (rs m L k &&& rs m (L.map flip) k)).length := List.length_pos_iff.2 hp
          have h4 : 2 ^ m - 1 < 2 ^ m := by have := Nat.one_le_two_pow (n := m); omega
          refine OrH.l (OrH.l ⟨by omega, OrH.l (OrH.l ⟨⟨by omega, by omega, by rw [h1]; exact h4, outS_lt' (by omega) hg⟩, OrH.l (OrH.l ⟨by omega, OrH.l (OrH.l ⟨⟨by omega, by omega, by rw [h2]; exact h4, outS_lt' (by omega) hg.flip⟩, ⟨h3.1, h3.2.1⟩, OrH.l (OrH.l ⟨h3.2.2, by omega, by rw [ptsI, List.length_map]; exact hpos, by decide, ⟨fun _ => trivial, by simp; omega, by omega, by omega⟩, by omega, k + 1, by omega, by omega, ?_⟩)⟩)⟩)⟩)⟩)
          refine Wkn.of [] [some 0] ?_
          have e1 : (ptsI (rs m L k &&& rs m (L.map flip) k)).getD 0 default = (part m L k : Int) := by
            unfold part low ptsI
            cases hpp : pts (rs m L k &&& rs m (L.map flip) k) with
            | nil => exact absurd hpp hp
            | cons x t => rfl
          unfold rs at e1
          have e2 : (List.range m).take (k + 1) = (List.range m).take k ++ [k] := by
            rw [take_succ_getD (by simpa using h), List.getD_eq_getElem?_getD, List.getElem?_range h]; rfl
          simp (implicitDefEqProofs := false) (dsimp := false) only [e1, e2, List.map_append, nD, List.getD_cons_zero, List.set_cons_zero, List.set_cons_succ, List.map_cons, List.map_nil, Bool.and_self, Nat.reduceAdd, Nat.reduceSub, Nat.reduceMul, List.replicate, evK_go, reduceIte, Nat.reduceEqDiff, Nat.reduceLT, and_self, List.foldl_cons, List.foldl_nil, Int.cast_ofNat_Int, Int.natCast_add, slots, wkL_nil, wkL_cons, wkB_nil, wkR_nil, wkR_some, wkV_j, wkV_d, wkV_o, frz_d, oK_zs, reduceCtorEq]
        · obtain rfl : k = m := by omega
          have e1 : (List.range k).take k = List.range k := List.take_of_length_le (by simp)
          have e2 : List.take k (List.map nD (List.map (part k L) (List.range k))) = (strongP k L).map nD := List.take_of_length_le (by simp)
          simp (implicitDefEqProofs := false) (dsimp := false) only [e1, e2, erD_0, eval_nilI, ↓optK_some, ↓rwK_mk_, ↓aw_seq, ↓aw_exit, ↓aw_ret, ↓aw_reg, ↓Qseq_n, ↓Qseq_x, ↓Qblk_x, ↓Qret_r, ↓ops_nil, ↓ops_cons, ↓eval_tmp, ↓put_some, ↓op_move, ↓op_assign, ↓td_d, ↓td_o, ↓ret_2, ↓row_xs, List.getD_cons_zero, List.getD_cons_succ, List.set_cons_zero, List.set_cons_succ, Nat.reduceAdd, Nat.reduceSub, Nat.reduceMul, evK_go, reduceIte, decide_false, Nat.reduceEqDiff, Nat.reduceLT, Nat.lt_irrefl, List.drop_zero]
end Go.Proofs

namespace Go.Proofs
open Go.Aw
set_option linter.unusedSimpArgs false
set_option maxRecDepth 10000
theorem spartsS_spec (n : Int) (l : List (Int × Int)) (hpre : l.length < 2 ^ 62) : FnD Tryd.prog 58 [I .i64 n, .l (l.map lnD)] (.t [.l ((strongR n l).map nD), erD (chk n l)]) := by
  exact sparts_spec n l hpre
theorem spartsS_call (n : Int) (l : List (Int × Int)) (pure : Bool) (σ : St) (dst : Option Tmp) (K : St → Prop) : CallH Tryd.prog 58 [I .i64 n, .l (l.map lnD)] pure σ dst (.mk : Hid K) = OrH ((l.length < 2 ^ 62) ∧ (pure || D.flat (.t [.l ((strongR n l).map nD), erD (chk n l)])) = true ∧ evK (σ.put dst (.d (.t [.l ((strongR n l).map nD), erD (chk n l)]))) (.mk : Hid K)) (.mk : Hid (CallH Tryd.prog 58 [I .i64 n, .l (l.map lnD)] pure σ dst (.mk : Hid K))) := CallH.eq (spartsS_spec n l) pure σ dst K
theorem spartsS_callQ (n : Int) (l : List (Int × Int)) (pure : Bool) (C : V → Prop) : CallQ Tryd.prog 58 [I .i64 n, .l (l.map lnD)] pure (.mk : Hid C) = OrH ((l.length < 2 ^ 62) ∧ (pure || D.flat (.t [.l ((strongR n l).map nD), erD (chk n l)])) = true ∧ evK (V.d (.t [.l ((strongR n l).map nD), erD (chk n l)])) (.mk : Hid C)) (.mk : Hid (CallQ Tryd.prog 58 [I .i64 n, .l (l.map lnD)] pure (.mk : Hid C))) := CallQ.eq (spartsS_spec n l) pure C
def foldO (n : Int) (l : List (Int × Int)) : List Nat := if chk n l = 0 then fOut n.toNat (natL l) else []
def foldL (n : Int) (l : List (Int × Int)) : List (Nat × Nat) := if chk n l = 0 then fLines n.toNat (natL l) else []
theorem cross_succ (out : List Nat) {l : List (Nat × Nat)} {k : Nat} (h : k < l.length) : crossL out (l.take (k + 1)) = crossL out (l.take k) ++ (if out.getD (l.getD k default).1 default ≠ out.getD (l.getD k default).2 default then [(out.getD (l.getD k default).1 default, out.getD (l.getD k default).2 default)] else []) := by
  unfold crossL
  rw [take_succ_getD h, List.map_append, List.filter_append]
  congr 1
  simp (implicitDefEqProofs := false) (dsimp := false) only [List.map_cons, List.map_nil, List.filter_cons, List.filter_nil]
  split <;> simp_all
theorem nD_get (s : List Nat) (i : Nat) : nD (s.getD i default) = nD (s.getD i default) := rfl
theorem fold_spec (n : Int) (l : List (Int × Int)) (hpre : l.length < 2 ^ 62) : FnD Tryd.prog 59 [I .i64 n, .l (l.map lnD)] (.t [.l ((foldO n l).map nD), .l ((foldL n l).map lnN), erD (chk n l)]) := by
  refine FnD.go Tryd.func59 rfl rfl Tryd.results59 Tryd.ntmps59 ?_
  simp (implicitDefEqProofs := false) (dsimp := false) only [↓aw_seq, ↓aw_reg, ↓Qseq_n, ↓ops_nil, ↓ops_cons, ↓eval_tmp, ↓eval_nil, ↓eval_func, ↓put_some, ↓op_move, ↓op_assign, ↓op_call, isD_d, ↓fnK_f, ↓call_H, ↓callK_H, ↓allT_nil, ↓allT_cons, ↓td_d, List.getD_cons_zero, List.getD_cons_succ, List.set_cons_zero, List.set_cons_succ, List.cons_append, List.nil_append, List.append_nil, List.map_cons, List.map_nil, List.length_cons, List.length_nil, List.all_cons, List.all_nil, Bool.and_self, Nat.reduceAdd, Nat.reduceSub, Nat.reduceMul, Nat.zero_add, List.replicate, evK_go, reduceIte, Nat.reduceEqDiff, Nat.reduceLT, and_self, Int.zero_add]
  simp (implicitDefEqProofs := false) (dsimp := false) only [spartsS_call, eval_nilI, ↓er_neq, ↓cdK_not, ↓nthK_H, ↓nthH_zero, ↓nthH_succ, ↓aw_cond, ↓aw_seq, ↓aw_reg, ↓Qseq_n, ↓ops_nil, ↓ops_cons, ↓eval_tmp, ↓put_some, ↓bK_b, ↓tK_t, ↓op_move, ↓op_assign, ↓op_bin, ↓op_extract, List.getD_cons_zero, List.getD_cons_succ, List.set_cons_zero, List.set_cons_succ, Bool.true_and, Bool.true_or, Nat.reduceAdd, Nat.reduceSub, Nat.reduceMul, evK_go, reduceIte, Nat.reduceEqDiff, Nat.reduceLT, true_and]
  refine OrH.l (OrH.l ⟨hpre, ?_⟩)
  refine cdK_dec (fun hc => ?_) (fun hc => ?_)
  rotate_left
  · simp (implicitDefEqProofs := false) (dsimp := false) only [foldO, foldL, hc, ↓aw_seq, ↓aw_ret, ↓aw_reg, ↓Qseq_n, ↓Qseq_r, ↓Qret_r, ↓ops_nil, ↓ops_cons, ↓eval_tmp, ↓eval_nil, ↓put_some, ↓op_move, ↓op_assign, ↓td_d, ↓td_nl, ↓ret_3, List.getD_cons_zero, List.getD_cons_succ, List.set_cons_zero, List.set_cons_succ, List.map_nil, Nat.reduceAdd, Nat.reduceSub, Nat.reduceMul, evK_go, reduceIte, decide_false, Bool.not_false, Nat.reduceEqDiff, Nat.reduceLT]
  have ok := chk_ok hc
  rw [show foldO n l = fOut n.toNat (natL l) from if_pos hc, show foldL n l = fLines n.toNat (natL l) from if_pos hc, show strongR n l = strongP n.toNat (natL l) from if_pos hc, lnD_nat ok.rng, hc]
  have hg := ok.good
  have h8 := ok.hi
  have e0 := ok.n0
  have h24 : (natL l).length ≤ 24 := by rw [natL_len]; exact ok.len
  clear ok hc hpre
  generalize n.toNat = m at *
  subst e0
  generalize natL l = L at *
  have hn : m ≤ 64 := by omega
  obtain ⟨P, hP⟩ : ∃ P, P = strongP m L := ⟨_, rfl⟩
  have hPl : P.length = m := by rw [hP]; simp [strongP]
  have hPlt : ∀ i, i < m → P.getD i default < m := fun i hi => by rw [hP]; exact P_lt hn hg hi
  rw [← hP]
  simp (implicitDefEqProofs := false) (dsimp := false) only [↓aw_seq, ↓aw_block, ↓aw_skip, ↓aw_loop, ↓aw_reg, ↓Qseq_n, ↓ops_nil, ↓ops_cons, ↓eval_tmp, ↓eval_int, ↓put_some, ↓iK_i, ↓dK_d, ↓lenK_l, ↓op_move, ↓op_assign, ↓op_len, ↓op_make, ↓addRow_mk, ↓st_rw, ↓cells_c, ↓one_i, constV_i, ↓mk_, ↓vsz_int, ↓ty3, ↓zb3, ↓sl24, List.getD_cons_zero, List.getD_cons_succ, List.set_cons_zero, List.set_cons_succ, List.nil_append, List.length_cons, List.length_nil, List.length_map, List.all_cons, List.all_nil, Bool.and_true, Bool.true_and, Bool.and_self, Nat.reduceAdd, Nat.reduceSub, Nat.reduceMul, Nat.zero_add, Int.toNat_natCast, evK_go, reduceIte, decide_true, Bool.not_true, Nat.reduceEqDiff, Nat.reduceLT, and_self, true_and, and_true, Int.zero_add, Int.natCast_nonneg]
  simp (implicitDefEqProofs := false) (dsimp := false) only [hPl]
  refine ⟨⟨by omega, by decide⟩, ?_⟩
  refine loopW (fun k : Nat => { tm := slots 120 [(0, .d (I .i64 (m : Int))), (1, .d (.l (L.map lnN))), (7, .d (.l (P.map nD))), (9, .o 0 0 m), (10, .d (I .i64 ((numS m P k).2 : Int))), (36, .d (.l (P.map nD))), (37, .d (I .i64 (m : Int))), (38, .d (I .i64 k))], bx := [], rw := [some ⟨1, (numS m P k).1.map nD⟩] })
    (fun k => k ≤ m) (fun k => m - k) 0 (by simp) ?_ ?_
  · refine Wkn.of [] [some 0] ?_
    simp (implicitDefEqProofs := false) (dsimp := false) only [numS, List.range_zero, List.foldl_nil, List.map_replicate, List.getD_cons_zero, List.set_cons_zero, List.set_cons_succ, Bool.and_true, Bool.true_and, Bool.and_self, Nat.reduceAdd, Nat.reduceSub, Nat.reduceMul, List.replicate, evK_go, reduceIte, Nat.reduceEqDiff, Nat.reduceLT, and_self, true_and, and_true, List.foldl_cons, List.foldl_nil, Int.cast_ofNat_Int, slots, wkL_nil, wkL_cons, wkB_nil, wkR_nil, wkR_some, wkV_j, wkV_d, wkV_o, frz_d, oK_zs, reduceCtorEq, Option.some.injEq]
    rfl
  · intro k hk
    obtain ⟨hn1, hn2, hn3⟩ := numS_spec m P k hk
    simp (implicitDefEqProofs := false) (dsimp := false) only [slots, ↓aw_cond, ↓aw_seq, ↓aw_reg, ↓Qseq_n, ↓ops_nil, ↓ops_cons, ↓eval_tmp, ↓put_some, ↓bK_b, ↓binE_i, ↓bi_lss, ↓op_bin, List.getD_cons_zero, List.getD_cons_succ, List.set_cons_zero, List.set_cons_succ, Nat.reduceAdd, Nat.reduceSub, Nat.reduceMul, List.replicate, evK_go, reduceIte, Nat.reduceEqDiff, Nat.reduceLT, List.foldl_cons, List.foldl_nil, Int.ofNat_lt]
    refine cdK_dec (fun h => ?_) (fun h => ?_)
    · have hkP : k < P.length := by omega
      have hrk := rank_le P k
      simp (implicitDefEqProofs := false) (dsimp := false) only [hkP, nD, ↓atK_H, ↓atH_map, ↓aw_cond, ↓aw_seq, ↓aw_block, ↓aw_skip, ↓aw_reg, ↓Qseq_n, ↓ops_nil, ↓ops_cons, ↓eval_tmp, ↓put_some, ↓bK_b, ↓iK_i, ↓binE_i, ↓bi_eql, ↓ldK_q, ↓iaK_l, ↓op_move, ↓op_assign, ↓op_load, ↓op_bin, ↓op_ia, ↓cells_c, ↓hd_cons, ↓ty3, ↓sl24, List.getD_cons_zero, List.getD_cons_succ, List.set_cons_zero, List.set_cons_succ, List.length_cons, List.length_nil, Bool.true_and, Nat.reduceAdd, Nat.reduceSub, Nat.reduceMul, Nat.zero_add, Int.toNat_natCast, evK_go, reduceIte, Nat.reduceEqDiff, Nat.reduceLT, true_and, Int.zero_add, Int.natCast_nonneg, Int.natCast_inj]
      refine cdK_dec (fun hr => ?_) (fun hr => ?_)
      · have hr' : isRoot P k = true := by simp (implicitDefEqProofs := false) (dsimp := false) only [isRoot, decide_eq_true_eq]; omega
        have hk1 : k < (numS m P k).1.length := by omega
        simp (implicitDefEqProofs := false) (dsimp := false) only [h, ↓optK_some, ↓rwK_mk_, ↓aw_seq, ↓aw_reg, ↓Qseq_n, ↓Qblk_n, ↓ops_nil, ↓ops_cons, ↓eval_tmp, ↓eval_int, ↓put_some, ↓put_none, ↓iK_i, ↓dK_d, ↓binE_i, ↓bi_add, ↓in_i64, ↓iaK_o, ↓op_move, ↓op_assign, ↓op_bin, ↓op_ia, ↓op_store, ↓setRow_mk, ↓row_sz, ↓row_xs, ↓cells_c, ↓one_i, ↓st_e, ↓ty3, ↓sl24, List.getD_cons_zero, List.getD_cons_succ, List.set_cons_zero, List.set_cons_succ, List.length_cons, List.length_nil, List.all_cons, List.all_nil, Bool.true_and, Bool.and_self, Nat.reduceAdd, Nat.reduceSub, Nat.reduceMul, Nat.zero_add, Int.toNat_natCast, evK_go, reduceIte, decide_true, Nat.reduceEqDiff, Nat.reduceLT, and_self, true_and, Int.zero_add, Int.ofNat_lt, Int.natCast_nonneg]
        refine ⟨by omega, by omega, k + 1, by omega, by omega, ?_⟩
        refine Wkn.of [] [some 0] ?_
        have e : numS m P (k + 1) = ((numS m P k).1.set k (numS m P k).2, (numS m P k).2 + 1) := by rw [numS_succ, numI, if_pos hr']
        simp (implicitDefEqProofs := false) (dsimp := false) only [e, List.map_set, nD, List.getD_cons_zero, List.set_cons_zero, List.set_cons_succ, Bool.and_self, Nat.reduceAdd, Nat.reduceSub, Nat.reduceMul, List.replicate, evK_go, reduceIte, Nat.reduceEqDiff, Nat.reduceLT, and_self, List.foldl_cons, List.foldl_nil, Int.cast_ofNat_Int, Int.natCast_add, slots, wkL_nil, wkL_cons, wkB_nil, wkR_nil, wkR_some, wkV_j, wkV_d, wkV_o, frz_d, oK_zs, reduceCtorEq]
      · have hr' : isRoot P k = false := by simp (implicitDefEqProofs := false) (dsimp := false) only [isRoot, decide_eq_false_iff_not]; omega
        simp (implicitDefEqProofs := false) (dsimp := false) only [↓aw_skip, ↓aw_reg, ↓Qseq_n, ↓Qblk_n, ↓ops_nil, ↓ops_cons, ↓eval_tmp, ↓eval_int, ↓put_some, ↓binE_i, ↓bi_add, ↓in_i64, ↓op_move, ↓op_bin, List.getD_cons_zero, List.getD_cons_succ, List.set_cons_zero, List.set_cons_succ, Nat.reduceAdd, Nat.reduceSub, Nat.reduceMul, evK_go, reduceIte, Nat.reduceEqDiff, Nat.reduceLT]
        refine ⟨by omega, k + 1, by omega, by omega, ?_⟩
        refine Wkn.of [] [some 0] ?_
        have e : numS m P (k + 1) = numS m P k := by rw [numS_succ, numI, if_neg (by rw [hr']; decide)]
        simp (implicitDefEqProofs := false) (dsimp := false) only [e, List.getD_cons_zero, List.set_cons_zero, List.set_cons_succ, Bool.and_self, Nat.reduceAdd, Nat.reduceSub, Nat.reduceMul, List.replicate, evK_go, reduceIte, Nat.reduceEqDiff, Nat.reduceLT, and_self, List.foldl_cons, List.foldl_nil, Int.cast_ofNat_Int, Int.natCast_add, slots, wkL_nil, wkL_cons, wkB_nil, wkR_nil, wkR_some, wkV_j, wkV_d, wkV_o, frz_d, oK_zs, reduceCtorEq]
    · obtain rfl : k = m := by omega
      simp (implicitDefEqProofs := false) (dsimp := false) only [↓aw_seq, ↓aw_block, ↓aw_exit, ↓aw_loop, ↓aw_reg, ↓Qseq_n, ↓Qseq_x, ↓Qblk_x, ↓ops_nil, ↓ops_cons, ↓eval_tmp, ↓eval_int, ↓put_some, ↓iK_i, ↓dK_d, ↓lenK_l, ↓op_move, ↓op_assign, ↓op_len, ↓op_make, ↓addRow_mk, ↓st_rw, ↓cells_c, ↓one_i, constV_i, ↓mk_, ↓vsz_int, ↓ty3, ↓zb3, ↓sl24, List.getD_cons_zero, List.getD_cons_succ, List.set_cons_zero, List.set_cons_succ, List.cons_append, List.nil_append, List.length_cons, List.length_nil, List.length_map, List.all_cons, List.all_nil, Bool.and_true, Bool.true_and, Bool.and_self, Nat.reduceAdd, Nat.reduceSub, Nat.reduceMul, Nat.zero_add, Int.toNat_natCast, evK_go, reduceIte, decide_false, Nat.reduceEqDiff, Nat.reduceLT, and_self, true_and, and_true, Nat.lt_irrefl, Int.zero_add, Int.natCast_nonneg]
      have hNl : (numS k P k).1.length = k := hn1
      have hMk : fMany k L = (numS k P k).2 := by rw [fMany, ← hP]
      have hMle := fMany_le (n := k) (l := L)
      have hOut : fOut k L = (List.range k).map fun i => (numS k P k).1.getD (P.getD i default) default := by rw [fOut, fOutP, ← hP]
      have hOl : (fOut k L).length = k := by rw [hOut]; simp
      have hOlt : ∀ i, i < k → (fOut k L).getD i default < fMany k L := fun i hi => fOut_lt hn hg hi
      have hcl := cross_lt hn hg
      rw [hMk] at hOlt hcl hMle
      refine ⟨⟨by omega, by decide⟩, ?_⟩
      refine loopW (fun q : Nat => { tm := slots 120 [(0, .d (I .i64 (k : Int))), (1, .d (.l (L.map lnN))), (9, .d (.l ((numS k P k).1.map nD))), (10, .d (I .i64 ((numS k P k).2 : Int))), (13, .o 0 0 k), (55, .d (.l (P.map nD))), (56, .d (I .i64 (k : Int))), (57, .d (I .i64 q))], bx := [], rw := [some ⟨1, ((List.range k).map fun i => if i < q then (numS k P k).1.getD (P.getD i default) default else 0).map nD⟩] })
        (fun q => q ≤ k) (fun q => k - q) 0 (by simp) ?_ ?_
      · refine Wkn.of [] [some 1] ?_
        have e2 : List.take k ((numS k P k).1.map nD) = (numS k P k).1.map nD := List.take_of_length_le (by simp [hNl])
        simp (implicitDefEqProofs := false) (dsimp := false) only [hPl, e2, part_zero, List.map_replicate, nD, ↓optK_some, ↓row_xs, List.getD_cons_zero, List.getD_cons_succ, List.set_cons_zero, List.set_cons_succ, Bool.and_self, Nat.reduceAdd, Nat.reduceSub, Nat.reduceMul, List.replicate, evK_go, reduceIte, Nat.reduceEqDiff, Nat.reduceLT, and_self, not_false_eq_true, List.drop_zero, List.foldl_cons, List.foldl_nil, Int.cast_ofNat_Int, slots, wkL_nil, wkL_cons, wkB_nil, wkR_nil, wkR_some, wkV_j, wkV_d, wkV_o, frz_d, frz_o, oK_zs, dl_eq, reduceCtorEq, List.mem_cons, List.not_mem_nil, or_self, Option.some.injEq]
      · intro q hq
        simp (implicitDefEqProofs := false) (dsimp := false) only [slots, ↓aw_cond, ↓aw_seq, ↓aw_reg, ↓Qseq_n, ↓ops_nil, ↓ops_cons, ↓eval_tmp, ↓put_some, ↓bK_b, ↓binE_i, ↓bi_lss, ↓op_bin, List.getD_cons_zero, List.getD_cons_succ, List.set_cons_zero, List.set_cons_succ, Nat.reduceAdd, Nat.reduceSub, Nat.reduceMul, List.replicate, evK_go, reduceIte, Nat.reduceEqDiff, Nat.reduceLT, List.foldl_cons, List.foldl_nil, Int.ofNat_lt]
        refine cdK_dec (fun h => ?_) (fun h => ?_)
        · have hqP : q < P.length := by omega
          have hPq := hPlt q h
          have hPN : P.getD q default < (numS k P k).1.length := by omega
          simp (implicitDefEqProofs := false) (dsimp := false) only [h, hqP, hPN, nD, ↓optK_some, ↓rwK_mk_, ↓atK_H, ↓atH_map, ↓aw_seq, ↓aw_block, ↓aw_skip, ↓aw_reg, ↓Qseq_n, ↓Qblk_n, ↓ops_nil, ↓ops_cons, ↓eval_tmp, ↓eval_int, ↓put_some, ↓put_none, ↓iK_i, ↓dK_d, ↓binE_i, ↓bi_add, ↓in_i64, ↓ldK_q, ↓iaK_l, ↓iaK_o, ↓op_move, ↓op_assign, ↓op_load, ↓op_bin, ↓op_ia, ↓op_store, ↓setRow_mk, ↓row_sz, ↓row_xs, ↓cells_c, ↓one_i, ↓st_e, ↓hd_cons, ↓ty3, ↓sl24, List.getD_cons_zero, List.getD_cons_succ, List.set_cons_zero, List.set_cons_succ, List.length_cons, List.length_nil, List.all_cons, List.all_nil, Bool.true_and, Bool.and_self, Nat.reduceAdd, Nat.reduceSub, Nat.reduceMul, Nat.zero_add, Int.toNat_natCast, evK_go, reduceIte, decide_true, Nat.reduceEqDiff, Nat.reduceLT, and_self, true_and, Int.zero_add, Int.ofNat_lt, Int.natCast_nonneg]
          refine ⟨by omega, q + 1, by omega, by omega, ?_⟩
          refine Wkn.of [] [some 0] ?_
          have e := part_set (fun i => (numS k P k).1.getD (P.getD i default) default) 0 h
          simp (implicitDefEqProofs := false) (dsimp := false) only [e, List.map_set, nD, List.getD_cons_zero, List.set_cons_zero, List.set_cons_succ, Bool.and_self, Nat.reduceAdd, Nat.reduceSub, Nat.reduceMul, List.replicate, evK_go, reduceIte, Nat.reduceEqDiff, Nat.reduceLT, and_self, List.foldl_cons, List.foldl_nil, Int.cast_ofNat_Int, Int.natCast_add, slots, wkL_nil, wkL_cons, wkB_nil, wkR_nil, wkR_some, wkV_j, wkV_d, wkV_o, frz_d, oK_zs, reduceCtorEq]
        · obtain rfl : q = k := by omega
          simp (implicitDefEqProofs := false) (dsimp := false) only [part_all, ← hOut, ↓aw_seq, ↓aw_block, ↓aw_exit, ↓aw_loop, ↓aw_reg, ↓Qseq_n, ↓Qseq_x, ↓Qblk_x, ↓ops_nil, ↓ops_cons, ↓eval_tmp, ↓eval_int, ↓put_some, ↓iK_i, ↓dK_d, ↓lenK_l, ↓op_move, ↓op_assign, ↓op_len, ↓op_make, ↓addRow_mk, ↓st_rw, ↓cells_c, ↓one_i, constV_i, ↓mk_, ↓vsz_int, ↓sl22, ↓sl99, ↓ty102, ↓zb102, List.getD_cons_zero, List.getD_cons_succ, List.set_cons_zero, List.set_cons_succ, List.cons_append, List.nil_append, List.length_cons, List.length_nil, List.length_map, List.all_cons, List.all_nil, Bool.and_true, Bool.true_and, Bool.and_self, Nat.reduceAdd, Nat.reduceSub, Nat.reduceMul, Nat.zero_add, Int.toNat_natCast, evK_go, reduceIte, decide_false, Nat.reduceEqDiff, Nat.reduceLT, and_self, true_and, and_true, Nat.lt_irrefl, Int.zero_add, Int.natCast_nonneg]
          generalize (numS q P q).1 = NUM at *
          generalize (numS q P q).2 = MANY at *
          generalize hO : fOut q L = O at *
          have eNext : fNext q L = outS MANY (crossL O L) := by rw [fNext, hO, hMk]
          have eLines : fLines q L = linesK (fNext q L) MANY := by rw [fLines, hMk]
          refine ⟨⟨by omega, by decide⟩, ?_⟩
          refine loopW (fun k : Nat => { tm := slots 120 [(10, .d (I .i64 (MANY : Int))), (13, .d (.l (O.map nD))), (16, .o 0 0 MANY), (72, .d (.l (L.map lnN))), (73, .d (I .i64 L.length)), (74, .d (I .i64 k))], bx := [], rw := [some ⟨1, (outS MANY (crossL O (L.take k))).map U⟩] })
            (fun k => k ≤ L.length) (fun k => L.length - k) 0 (by simp) ?_ ?_
          · refine Wkn.of [] [some 1] ?_
            have e2 : List.take q (O.map nD) = O.map nD := List.take_of_length_le (by simp [hOl])
            simp (implicitDefEqProofs := false) (dsimp := false) only [e2, crossL, outS, List.take_zero, List.filter_nil, List.map_replicate, ↓optK_some, ↓row_xs, List.getD_cons_zero, List.getD_cons_succ, List.set_cons_zero, List.set_cons_succ, List.map_nil, Bool.and_true, Bool.true_and, Bool.and_self, Nat.reduceAdd, Nat.reduceSub, Nat.reduceMul, List.replicate, evK_go, reduceIte, Nat.reduceEqDiff, Nat.reduceLT, and_self, true_and, and_true, ne_eq, not_false_eq_true, List.drop_zero, List.take_zero, List.foldl_cons, List.foldl_nil, Int.cast_ofNat_Int, slots, wkL_nil, wkL_cons, wkB_nil, wkR_nil, wkR_some, wkV_j, wkV_d, wkV_o, frz_d, frz_o, oK_zs, dl_eq, reduceCtorEq, List.mem_cons, List.not_mem_nil, or_self, Option.some.injEq]
            rfl
          · intro k hkL
            simp (implicitDefEqProofs := false) (dsimp := false) only [slots, ↓aw_cond, ↓aw_seq, ↓aw_reg, ↓Qseq_n, ↓ops_nil, ↓ops_cons, ↓eval_tmp, ↓put_some, ↓bK_b, ↓binE_i, ↓bi_lss, ↓op_bin, List.getD_cons_zero, List.getD_cons_succ, List.set_cons_zero, List.set_cons_succ, Nat.reduceAdd, Nat.reduceSub, Nat.reduceMul, List.replicate, evK_go, reduceIte, Nat.reduceEqDiff, Nat.reduceLT, List.foldl_cons, List.foldl_nil, Int.ofNat_lt]
            refine cdK_dec (fun hkl => ?_) (fun hkl => ?_)
            · obtain ⟨hA, hB⟩ := hg _ (getD_mem hkl)
              have hAO : (L.getD k default).1 < O.length := by omega
              have hBO : (L.getD k default).2 < O.length := by omega
              have hAv := hOlt _ hA
              have hBv := hOlt _ hB
              simp (implicitDefEqProofs := false) (dsimp := false) only [hkl, hAO, hBO, nD, lnN_cells, ↓cdK_not, ↓atK_H, ↓atH_map, ↓nthK_H, ↓nthH_zero, ↓nthH_succ, ↓aw_cond, ↓aw_seq, ↓aw_block, ↓aw_skip, ↓aw_reg, ↓aw_draw, ↓Qseq_n, ↓ops_nil, ↓ops_cons, ↓eval_tmp, ↓put_some, ↓put_none, ↓bK_b, ↓iK_i, ↓ev_move, ↓ev_assign, ↓ev_load, ↓ev_fa, ↓ev_ia, ↓binE_i, ↓bi_neq, ↓ldK_q, ↓ldK_p, ↓faK_p, ↓iaK_l, ↓op_move, ↓op_load, ↓op_bin, ↓op_ia, ↓op_alloc, ↓op_store, ↓draw_H, ↓h_nil, ↓h_cons, ↓ldH_n, ↓q_move, ↓q_assign, ↓q_load, ↓q_fa, ↓q_ia, ↓il_move, ↓il_assign, ↓il_load, ↓il_fa, ↓il_ia, ↓addBox_mk, ↓setBox_mk, ↓st_bx, ↓cells_c, ↓vcells_s, ↓one_i, ↓vone_d, constV_a, ↓st_p, ↓hd_cons, ↓ty3, ↓sl22, ↓sl24, ↓ty41, ↓zb41, ↓fd41_0, ↓fd41_1, List.getD_cons_zero, List.getD_cons_succ, List.set_cons_zero, List.set_cons_succ, List.nil_append, List.map_cons, List.map_nil, List.length_cons, List.length_nil, List.all_cons, List.all_nil, Bool.true_and, Bool.and_self, Nat.reduceAdd, Nat.reduceSub, Nat.reduceMul, Nat.zero_add, Nat.add_zero, Int.toNat_natCast, evK_go, reduceIte, decide_true, Nat.reduceEqDiff, Nat.reduceLT, and_self, true_and, Int.zero_add, List.take_succ_cons, List.take_nil, Int.natCast_nonneg, Int.natCast_inj]
              refine ⟨by decide, OrH.l ⟨DrawH.of follows_mixed (by kernel_rfl), ?_⟩⟩
              have hcs := cross_succ O hkl
              have hcsub : ∀ p ∈ crossL O (L.take k), p.1 < MANY ∧ p.2 < MANY := fun p hp => hcl p (by
                obtain ⟨x, hx, e⟩ := List.mem_map.1 (List.mem_filter.1 hp).1
                exact List.mem_filter.2 ⟨List.mem_map.2 ⟨x, List.mem_of_mem_take hx, e⟩, (List.mem_filter.1 hp).2⟩)
              have hnl := outS_len MANY (crossL O (L.take k))
              have hnt := outS_lt MANY (crossL O (L.take k)) (fun p hp => by have := hcsub p hp; omega)
              refine cdK_dec (fun hab => ?_) (fun hab => ?_)
              · simp (implicitDefEqProofs := false) (dsimp := false) only [↓aw_skip, ↓aw_reg, ↓Qseq_n, ↓Qblk_n, ↓ops_nil, ↓ops_cons, ↓eval_tmp, ↓eval_int, ↓put_some, ↓binE_i, ↓bi_add, ↓in_i64, ↓op_move, ↓op_bin, List.getD_cons_zero, List.getD_cons_succ, List.set_cons_zero, List.set_cons_succ, Nat.reduceAdd, Nat.reduceSub, Nat.reduceMul, evK_go, reduceIte, Nat.reduceEqDiff, Nat.reduceLT]
                refine ⟨by omega, k + 1, by omega, by omega, ?_⟩
                refine Wkn.of [] [some 0] ?_
                rw [if_neg (fun h => h (by omega)), List.append_nil] at hcs
                simp (implicitDefEqProofs := false) (dsimp := false) only [hcs, List.getD_cons_zero, List.set_cons_zero, List.set_cons_succ, Bool.and_self, Nat.reduceAdd, Nat.reduceSub, Nat.reduceMul, List.replicate, evK_go, reduceIte, Nat.reduceEqDiff, Nat.reduceLT, and_self, List.foldl_cons, List.foldl_nil, Int.cast_ofNat_Int, Int.natCast_add, slots, wkL_nil, wkL_cons, wkB_nil, wkR_nil, wkR_some, wkV_j, wkV_d, wkV_o, frz_d, oK_zs, reduceCtorEq]
              · rw [if_pos (fun h => hab (by omega))] at hcs
                have h1 : O.getD (L.getD k default).1 default < (outS MANY (crossL O (L.take k))).length := by omega
                have h2 := hnt _ (getD_mem h1)
                have h3 : O.getD (L.getD k default).2 default < 64 := by omega
                simp (implicitDefEqProofs := false) (dsimp := false) only [h1, h2, h3, hAv, with_call, ↓optK_some, ↓rwK_mk_, ↓atK_H, ↓atH_map, ↓nthK_H, ↓nthH_zero, ↓aw_reg, ↓Qseq_n, ↓Qblk_n, ↓ops_nil, ↓ops_cons, ↓eval_tmp, ↓eval_int, ↓eval_func, ↓put_some, ↓put_none, ↓iK_i, ↓dK_d, ↓binE_i, ↓bi_add, ↓in_i64, ↓ldK_e, ↓iaK_o, ↓op_move, ↓op_load, ↓op_bin, ↓op_ia, ↓op_call, ↓op_store, isD_d, ↓fnK_f, ↓call_H, ↓callK_H, ↓allT_nil, ↓allT_cons, ↓td_d, ↓setRow_mk, ↓row_sz, ↓row_xs, ↓cells_c, ↓one_i, ↓st_e, ↓sl99, ↓ty102, List.getD_cons_zero, List.getD_cons_succ, List.set_cons_zero, List.set_cons_succ, List.append_nil, List.length_cons, List.length_nil, List.all_cons, List.all_nil, Bool.true_and, Bool.and_self, Bool.true_or, Nat.reduceAdd, Nat.reduceSub, Nat.reduceMul, Nat.zero_add, Int.toNat_natCast, evK_go, reduceIte, Nat.reduceEqDiff, Nat.reduceLT, and_self, true_and, Int.zero_add, Int.ofNat_lt, Int.natCast_nonneg]
                refine OrH.l (OrH.l ⟨by omega, k + 1, by omega, by omega, ?_⟩)
                refine Wkn.of [] [some 0] ?_
                simp (implicitDefEqProofs := false) (dsimp := false) only [hcs, outS_snoc, outF, List.map_set, List.getD_cons_zero, List.set_cons_zero, List.set_cons_succ, Bool.and_self, Nat.reduceAdd, Nat.reduceSub, Nat.reduceMul, List.replicate, evK_go, reduceIte, Nat.reduceEqDiff, Nat.reduceLT, and_self, List.foldl_cons, List.foldl_nil, Int.cast_ofNat_Int, Int.natCast_add, slots, wkL_nil, wkL_cons, wkB_nil, wkR_nil, wkR_some, wkV_j, wkV_d, wkV_o, frz_d, oK_zs, reduceCtorEq]
            · obtain rfl : k = L.length := by omega
              have e3 : outS MANY (crossL O (L.take L.length)) = fNext q L := by rw [List.take_length, eNext]
              have hXl : (fNext q L).length = MANY := by rw [eNext, outS_len]
              have hXt : ∀ x ∈ fNext q L, x < 2 ^ 64 := by rw [eNext]; exact outS_lt MANY _ (fun p hp => by have := hcl p hp; omega)
              simp (implicitDefEqProofs := false) (dsimp := false) only [e3, ↓optK_some, ↓rwK_mk_, ↓aw_seq, ↓aw_block, ↓aw_exit, ↓aw_loop, ↓aw_reg, ↓Qseq_n, ↓Qseq_x, ↓Qblk_x, ↓ops_nil, ↓ops_cons, ↓eval_tmp, ↓eval_int, ↓put_some, ↓lenK_o, ↓op_move, ↓op_len, ↓op_alloc, ↓addBox_mk, ↓st_bx, constV_n, ↓zb22, ↓sl99, List.getD_cons_zero, List.getD_cons_succ, List.set_cons_zero, List.set_cons_succ, List.nil_append, List.length_nil, Nat.reduceAdd, Nat.reduceSub, Nat.reduceMul, evK_go, reduceIte, decide_false, Nat.reduceEqDiff, Nat.reduceLT, Nat.lt_irrefl]
              rw [eLines]
              generalize fNext q L = X at hXl hXt ⊢
              refine loopW (fun k : Nat => { tm := slots 120 [(13, .d (.l (O.map nD))), (21, .p 0 0), (101, .d (.l (X.map U))), (102, .d (I .i64 (MANY : Int))), (103, .d (I .i64 k))], bx := [.o 0 0 (linesK X k).length], rw := [some ⟨2, (linesK X k).map lnN⟩] })
                (fun k => k ≤ MANY) (fun k => MANY - k) 0 (by simp) ?_ ?_
              · refine Wkn.of [0] [none] ?_
                have e2 : List.take MANY (X.map U) = X.map U := List.take_of_length_le (by simp [hXl])
                simp (implicitDefEqProofs := false) (dsimp := false) only [e2, linesK, List.range_zero, List.flatMap_nil, ↓optK_some, ↓row_xs, ↓vcells_nl, ↓vcells_o, List.getD_cons_zero, List.set_cons_zero, List.set_cons_succ, List.map_nil, List.length_cons, List.length_nil, Bool.and_self, Nat.reduceAdd, Nat.reduceSub, Nat.reduceMul, Nat.zero_add, List.replicate, evK_go, reduceIte, Nat.reduceEqDiff, Nat.reduceLT, and_self, not_false_eq_true, Int.zero_add, List.drop_zero, List.foldl_cons, List.foldl_nil, Int.cast_ofNat_Int, slots, wkL_nil, wkL_cons, wkB_nil, wkB_cons, wkR_nil, wkR_new, wkV_j, wkV_d, nlK_nl, wkV_o, wkV_p, frz_d, frz_o, oK_zn, pK_z, dl_eq, reduceCtorEq, List.mem_cons, List.not_mem_nil, or_self]
              · intro k hkM
                simp (implicitDefEqProofs := false) (dsimp := false) only [slots, ↓aw_cond, ↓aw_seq, ↓aw_reg, ↓Qseq_n, ↓ops_nil, ↓ops_cons, ↓eval_tmp, ↓put_some, ↓bK_b, ↓binE_i, ↓bi_lss, ↓op_bin, List.getD_cons_zero, List.getD_cons_succ, List.set_cons_zero, List.set_cons_succ, Nat.reduceAdd, Nat.reduceSub, Nat.reduceMul, List.replicate, evK_go, reduceIte, Nat.reduceEqDiff, Nat.reduceLT, List.foldl_cons, List.foldl_nil, Int.ofNat_lt]
                refine cdK_dec (fun h => ?_) (fun h => ?_)
                · have hkX : k < X.length := by omega
                  have hlt := hXt _ (getD_mem hkX)
                  simp (implicitDefEqProofs := false) (dsimp := false) only [h, hkX, each_call, ↓atK_H, ↓atH_map, ↓aw_seq, ↓aw_block, ↓aw_skip, ↓aw_rng, ↓aw_reg, ↓Qseq_n, ↓ops_nil, ↓ops_cons, ↓eval_tmp, ↓eval_func, ↓put_some, ↓put_none, ↓iK_i, ↓ldK_q, ↓iaK_l, ↓op_move, ↓op_assign, ↓op_load, ↓op_ia, ↓op_call, ↓op_alloc, ↓op_store, isD_d, ↓fnK_f, ↓call_H, ↓callK_H, ↓allT_nil, ↓allT_cons, ↓td_d, ↓addBox_mk, ↓setBox_mk, ↓st_bx, ↓cells_c, ↓vcells_c, ↓one_i, ↓vone_d, constV_i, ↓st_p, ↓hd_cons, ↓ty3, ↓zb3, ↓sl99, ↓ty102, List.getD_cons_zero, List.getD_cons_succ, List.set_cons_zero, List.set_cons_succ, List.cons_append, List.nil_append, List.append_nil, List.length_cons, List.length_nil, List.all_cons, List.all_nil, Bool.true_and, Bool.and_self, Bool.true_or, Nat.reduceAdd, Nat.reduceSub, Nat.reduceMul, Nat.zero_add, Int.toNat_natCast, evK_go, reduceIte, decide_true, Nat.reduceEqDiff, Nat.reduceLT, and_self, true_and, Int.zero_add, Int.natCast_nonneg]
                  refine OrH.l (OrH.l ?_)
                  have hKl : (linesK X k).length ≤ k * 64 := by
                    clear hkX hlt h hkM
                    induction k with
                    | zero => simp [linesK]
                    | succ k ih => rw [linesK_succ, List.length_append, List.length_map]; have := pts_len (X.getD k default); omega
                  refine rangeW (slots 120 [(13, .d (.l (O.map nD))), (21, .p 0 0), (22, .p 1 0), (101, .d (.l (X.map U))), (102, .d (I .i64 (MANY : Int))), (103, .d (I .i64 (k : Int))), (109, .d (.f (.func 111) [.q [U (X.getD k default)]]))])
                    (fun P : List Nat => [.o 0 0 ((linesK X k).length + P.length), .d (I .i64 (k : Int))]) (fun P => [some ⟨2, (linesK X k ++ P.map fun j => (k, j)).map lnN⟩]) (fun ys P => ys = P.map Int.ofNat) []
                    (by simp [slots]) (each_iter _ hlt) ?_ rfl ?_ ?_ ?_
                  · simp (implicitDefEqProofs := false) (dsimp := false) only [slots, ↓eval_tmp, List.getD_cons_zero, List.getD_cons_succ, List.set_cons_zero, List.set_cons_succ, Nat.reduceAdd, Nat.reduceSub, Nat.reduceMul, List.replicate, evK_go, reduceIte, Nat.reduceEqDiff, Nat.reduceLT, List.foldl_cons, List.foldl_nil]
                  · refine Wkn.of [0, 1] [some 0] ?_
                    simp (implicitDefEqProofs := false) (dsimp := false) only [↓vcells_c, ↓vcells_o, List.getD_cons_zero, List.getD_cons_succ, List.set_cons_zero, List.set_cons_succ, List.append_nil, List.map_nil, List.length_cons, List.length_nil, Bool.and_self, Nat.reduceAdd, Nat.reduceSub, Nat.reduceMul, Nat.zero_add, Nat.add_zero, List.replicate, evK_go, reduceIte, Nat.reduceEqDiff, Nat.reduceLT, and_self, Int.zero_add, List.foldl_cons, List.foldl_nil, slots, wkL_nil, wkL_cons, wkB_nil, wkB_cons, wkR_nil, wkR_some, wkV_j, wkV_d, wkV_o, wkV_p, frz_d, oK_zs, pK_z, pK_s, reduceCtorEq]
                  · rintro ys x P hpx rfl
                    obtain ⟨P', c, hP, rfl, hcc⟩ := prefix_map hpx
                    obtain rfl : P = P' := ofNat_inj hP
                    have h2 := hcc.length_le
                    have h3 := pts_len (X.getD k default)
                    simp (implicitDefEqProofs := false) (dsimp := false) only [List.length_append, List.length_cons, List.length_nil] at h2
                    simp (implicitDefEqProofs := false) (dsimp := false) only [slots, List.length_append, List.length_map, ↓optK_some, ↓rwK_mk_, ↓nthK_H, ↓nthH_zero, ↓aw_block, ↓aw_reg, ↓Qblk_n, ↓ops_nil, ↓ops_cons, ↓eval_tmp, ↓put_some, ↓put_none, ↓dK_d, ↓ldK_p, ↓op_move, ↓op_assign, ↓op_load, ↓op_build, ↓op_append, ↓op_store, ↓allD_nil, ↓allD_cons, ↓setBox_mk, ↓app_mk, ↓st_bx, ↓row_sz, ↓row_xs, kill_d, kill_j, kill_p, kill_o, ↓cells_c, ↓cells_s, ↓vcells_c, ↓vcells_j, ↓vcells_o, ↓one_i, ↓vone_o, ↓st_p, ↓ap_, ↓ap_o, ↓src_l, ↓bs_, ↓op_bs, ↓bsL_f, ↓stored_mk, ↓sl_nil, ↓sl_cons, ↓st_store_t, ↓sT_move, ↓sT_load, ↓sT_build, ↓sT_bs, ↓sT_call, ↓beq_some, ↓vsz_agg, ↓inO_1, ↓fm_nil, ↓fm_cons, ↓Qn_n, ↓Qrd_n, ↓back_mk, ↓ty3, ↓ty22, ↓sl22, ↓ty41, ↓zb41, ↓bd41, List.getD_cons_zero, List.getD_cons_succ, List.set_cons_zero, List.set_cons_succ, List.cons_append, List.nil_append, List.map_cons, List.map_nil, List.length_cons, List.length_nil, List.length_map, List.all_cons, List.all_nil, Bool.true_and, Bool.and_self, Bool.or_false, Nat.reduceAdd, Nat.reduceSub, Nat.reduceMul, Nat.zero_add, List.replicate, evK_go, reduceIte, decide_false, Nat.reduceEqDiff, Nat.reduceLT, and_self, true_and, Int.zero_add, List.drop_zero, List.foldl_cons, List.foldl_nil]
                    refine ⟨by decide, rfl, ⟨fun _ => trivial, by omega, by omega⟩, P ++ [c], by simp, ?_⟩
                    refine Wkn.of [0, 1] [some 0] ?_
                    simp (implicitDefEqProofs := false) (dsimp := false) only [List.map_append, List.length_append, List.append_assoc, lnN, Nat.add_assoc, ↓vcells_c, ↓vcells_o, List.getD_cons_zero, List.getD_cons_succ, List.map_cons, List.map_nil, List.length_cons, List.length_nil, Bool.and_self, Nat.reduceAdd, Nat.reduceSub, Nat.reduceMul, Nat.zero_add, evK_go, reduceIte, Nat.reduceEqDiff, Nat.reduceLT, and_self, Int.zero_add, slots, wkL_nil, wkL_cons, wkB_nil, wkB_cons, wkR_nil, wkR_some, wkV_j, wkV_d, wkV_o, wkV_p, frz_d, oK_zs, pK_z, pK_s, reduceCtorEq]
                  · rintro P hP
                    obtain rfl : pts (X.getD k default) = P := ofNat_inj hP
                    simp (implicitDefEqProofs := false) (dsimp := false) only [slots, ↓aw_reg, ↓Qseq_n, ↓Qblk_n, ↓ops_nil, ↓ops_cons, ↓eval_tmp, ↓eval_int, ↓put_some, ↓binE_i, ↓bi_add, ↓in_i64, ↓op_move, ↓op_bin, List.getD_cons_zero, List.getD_cons_succ, List.set_cons_zero, List.set_cons_succ, Nat.reduceAdd, Nat.reduceSub, Nat.reduceMul, List.replicate, evK_go, reduceIte, Nat.reduceEqDiff, Nat.reduceLT, List.foldl_cons, List.foldl_nil]
                    refine ⟨by omega, k + 1, by omega, by omega, ?_⟩
                    refine Wkn.of [0] [some 0] ?_
                    simp (implicitDefEqProofs := false) (dsimp := false) only [linesK_succ, List.length_append, List.length_map, ↓vcells_o, List.getD_cons_zero, List.length_cons, List.length_nil, List.length_map, Bool.and_self, Nat.reduceAdd, Nat.reduceSub, Nat.reduceMul, Nat.zero_add, evK_go, reduceIte, Nat.reduceEqDiff, Nat.reduceLT, and_self, Int.zero_add, Int.cast_ofNat_Int, Int.natCast_add, slots, wkL_nil, wkL_cons, wkB_nil, wkB_cons, wkR_nil, wkR_some, wkV_j, wkV_d, wkV_o, wkV_p, frz_d, oK_zs, pK_z, reduceCtorEq]
                · obtain rfl : k = MANY := by omega
                  simp (implicitDefEqProofs := false) (dsimp := false) only [eval_nilI, ↓optK_some, ↓rwK_mk_, ↓nthK_H, ↓nthH_zero, ↓aw_seq, ↓aw_exit, ↓aw_ret, ↓aw_draw, ↓Qseq_n, ↓Qseq_x, ↓Qblk_x, ↓Qret_r, ↓eval_tmp, ↓put_some, ↓ev_move, ↓ev_assign, ↓ev_load, ↓ldK_p, ↓td_d, ↓td_o, ↓ret_3, ↓draw_H, ↓h_nil, ↓h_cons, ↓ldH_n, ↓q_move, ↓q_assign, ↓q_load, ↓il_move, ↓il_assign, ↓il_load, ↓row_xs, ↓vcells_o, ↓take_map, ↓ty22, List.getD_cons_zero, List.getD_cons_succ, List.set_cons_zero, List.set_cons_succ, Nat.reduceAdd, Nat.reduceSub, Nat.reduceMul, evK_go, reduceIte, decide_false, Nat.reduceEqDiff, Nat.reduceLT, Nat.lt_irrefl, List.drop_zero]
                  refine OrH.l ⟨DrawH.of follows_mixed (by kernel_rfl), ?_⟩
                  rfl
theorem fold_call (n : Int) (l : List (Int × Int)) (pure : Bool) (σ : St) (dst : Option Tmp) (K : St → Prop) : CallH Tryd.prog 59 [I .i64 n, .l (l.map lnD)] pure σ dst (.mk : Hid K) = OrH ((l.length < 2 ^ 62) ∧ (pure || D.flat (.t [.l ((foldO n l).map nD), .l ((foldL n l).map lnN), erD (chk n l)])) = true ∧ evK (σ.put dst (.d (.t [.l ((foldO n l).map nD), .l ((foldL n l).map lnN), erD (chk n l)]))) (.mk : Hid K)) (.mk : Hid (CallH Tryd.prog 59 [I .i64 n, .l (l.map lnD)] pure σ dst (.mk : Hid K))) := CallH.eq (fold_spec n l) pure σ dst K
theorem fold_callQ (n : Int) (l : List (Int × Int)) (pure : Bool) (C : V → Prop) : CallQ Tryd.prog 59 [I .i64 n, .l (l.map lnD)] pure (.mk : Hid C) = OrH ((l.length < 2 ^ 62) ∧ (pure || D.flat (.t [.l ((foldO n l).map nD), .l ((foldL n l).map lnN), erD (chk n l)])) = true ∧ evK (V.d (.t [.l ((foldO n l).map nD), .l ((foldL n l).map lnN), erD (chk n l)])) (.mk : Hid C)) (.mk : Hid (CallQ Tryd.prog 59 [I .i64 n, .l (l.map lnD)] pure (.mk : Hid C))) := CallQ.eq (fold_spec n l) pure C
end Go.Proofs

namespace Go.Proofs
open Go.Aw
set_option linter.unusedSimpArgs false
set_option maxRecDepth 10000
theorem best_range {all : List Nat} {m : Nat} {P : List Nat} (h : ∀ x ∈ P, x < m) : P.foldl (bestK all) (-1) = -1 ∨ ∃ x : Nat, P.foldl (bestK all) (-1) = (x : Int) ∧ x < m := by
  rcases bestK_spec all P (-1) (.inl rfl) with h1 | ⟨x, h1, h2, _⟩
  · exact .inl h1.1
  · exact .inr ⟨x, h1, h x (h2.resolve_right (by omega))⟩
def lastB (m : Nat) (W : List Nat) (k : Nat) : List Int := (List.range m).map fun i => if i < k then lastI W i else 0
theorem dlast_spec (n : Int) (l : List (Int × Int)) (f : Int) (hpre : l.length < 2 ^ 62) : FnD Tryd.prog 68 [I .i64 n, .l (l.map lnD), I .i64 f] (.t [.l ((domLast n l f).map (I .i64)), erD (domE n l f)]) := by
  refine FnD.go Tryd.func68 rfl rfl Tryd.results68 Tryd.ntmps68 ?_
  simp (implicitDefEqProofs := false) (dsimp := false) only [↓aw_seq, ↓aw_reg, ↓Qseq_n, ↓ops_nil, ↓ops_cons, ↓eval_tmp, ↓eval_nil, ↓eval_func, ↓put_some, ↓op_move, ↓op_assign, ↓op_call, isD_d, ↓fnK_f, ↓call_H, ↓callK_H, ↓allT_nil, ↓allT_cons, ↓td_d, List.getD_cons_zero, List.getD_cons_succ, List.set_cons_zero, List.set_cons_succ, List.cons_append, List.nil_append, List.append_nil, List.map_cons, List.map_nil, List.length_cons, List.length_nil, List.all_cons, List.all_nil, Bool.and_self, Nat.reduceAdd, Nat.reduceSub, Nat.reduceMul, Nat.zero_add, List.replicate, evK_go, reduceIte, Nat.reduceEqDiff, Nat.reduceLT, and_self, Int.zero_add]
  simp (implicitDefEqProofs := false) (dsimp := false) only [gcheck_call, eval_nilI, ↓er_neq, er_flat, ↓cdK_not, ↓aw_cond, ↓aw_seq, ↓aw_reg, ↓Qseq_n, ↓ops_nil, ↓ops_cons, ↓eval_tmp, ↓put_some, ↓bK_b, ↓op_move, ↓op_assign, ↓op_bin, List.getD_cons_zero, List.getD_cons_succ, List.set_cons_zero, List.set_cons_succ, Bool.true_and, Bool.or_true, Nat.reduceAdd, Nat.reduceSub, Nat.reduceMul, evK_go, reduceIte, Nat.reduceEqDiff, Nat.reduceLT, true_and]
  refine OrH.l (OrH.l ⟨hpre, ?_⟩)
  refine cdK_dec (fun hc => ?_) (fun hc => ?_)
  rotate_left
  · have e : domE n l f = chk n l := if_neg hc
    have e2 : domLast n l f = [] := if_neg (by rw [e]; exact hc)
    simp (implicitDefEqProofs := false) (dsimp := false) only [e, e2, ↓aw_seq, ↓aw_ret, ↓aw_reg, ↓Qseq_n, ↓Qseq_r, ↓Qret_r, ↓ops_nil, ↓ops_cons, ↓eval_tmp, ↓eval_nil, ↓put_some, ↓op_move, ↓op_assign, ↓td_d, ↓td_nl, ↓ret_2, List.getD_cons_zero, List.getD_cons_succ, List.set_cons_zero, List.set_cons_succ, List.map_nil, Nat.reduceAdd, Nat.reduceSub, Nat.reduceMul, evK_go, reduceIte, Nat.reduceEqDiff, Nat.reduceLT]
  have ok := chk_ok hc
  have h8 := ok.hi
  have hlo := ok.lo
  have e0 := ok.n0
  simp (implicitDefEqProofs := false) (dsimp := false) only [within_call, ↓cdK_not, ↓aw_cond, ↓aw_seq, ↓aw_skip, ↓aw_reg, ↓Qseq_n, ↓ops_nil, ↓ops_cons, ↓eval_tmp, ↓eval_int, ↓eval_func, ↓put_some, ↓bK_b, ↓binE_i, ↓bi_sub, ↓in_i64, ↓op_move, ↓op_bin, ↓op_not, ↓op_call, isD_d, ↓fnK_f, ↓call_H, ↓callK_H, ↓allT_nil, ↓allT_cons, ↓td_d, List.getD_cons_zero, List.getD_cons_succ, List.set_cons_zero, List.set_cons_succ, List.append_nil, List.all_cons, List.all_nil, Bool.true_and, Bool.and_self, Bool.true_or, Nat.reduceAdd, Nat.reduceSub, Nat.reduceMul, evK_go, reduceIte, Nat.reduceEqDiff, Nat.reduceLT, and_self, true_and]
  refine ⟨by omega, ?_⟩
  (repeat refine OrH.l ?_)
  refine cdK_split (fun hf => ?_) (fun hf => ?_)
  rotate_left
  · have e : domE n l f = 1 := by unfold domE; rw [if_pos hc, hf]; rfl
    have e2 : domLast n l f = [] := if_neg (by rw [e]; decide)
    simp (implicitDefEqProofs := false) (dsimp := false) only [e, e2, nc108, erD_1, ↓aw_seq, ↓aw_ret, ↓aw_reg, ↓Qseq_n, ↓Qseq_r, ↓Qret_r, ↓ops_nil, ↓ops_cons, ↓eval_tmp, ↓eval_int, ↓eval_nil, ↓put_some, ↓vK_c, ↓op_assign, ↓op_iface, ↓td_d, ↓td_nl, ↓ret_2, ↓nc108, List.getD_cons_zero, List.getD_cons_succ, List.set_cons_zero, List.set_cons_succ, List.map_nil, Bool.and_self, Nat.reduceAdd, Nat.reduceSub, Nat.reduceMul, evK_go, reduceIte, Nat.reduceEqDiff, Nat.reduceLT, and_self]
  have e : domE n l f = 0 := by unfold domE; rw [if_pos hc, hf]; rfl
  rw [show domLast n l f = lastL n.toNat (ovL n.toNat (natL l) f.toNat) from if_pos e, e, lnD_nat ok.rng]
  have hcr := ok.cr
  have hff : 0 ≤ f ∧ f ≤ n - 1 := by simpa [inB] using hf
  obtain ⟨x, rfl⟩ := Int.eq_ofNat_of_zero_le hff.1
  clear ok hc hf e
  generalize n.toNat = m at *
  subst e0
  generalize natL l = L at *
  have hov : m ≤ 8 ∧ x < m ∧ L.length < 2 ^ 62 ∧ Good m L := ⟨h8, by omega, hcr.2.1, hcr.2.2⟩
  rw [Int.toNat_natCast]
  have hwl := ovL_len m L x
  have hwt := ovL_lt (n := m) (by omega) L x
  have hwm : ∀ i j, j ∈ pts ((ovL m L x).getD i default) → j < m := fun i j hj => ((ovL_pts (by omega) hcr.2.2 hov.2.1 i j).1 hj).1
  simp (implicitDefEqProofs := false) (dsimp := false) only [over_callD, hov, ↓nthK_H, ↓nthH_zero, ↓aw_seq, ↓aw_block, ↓aw_skip, ↓aw_loop, ↓aw_reg, ↓Qseq_n, ↓ops_nil, ↓ops_cons, ↓eval_tmp, ↓eval_int, ↓eval_func, ↓put_some, ↓put_none, ↓iK_i, ↓dK_d, ↓lenK_l, ↓ldK_p, ↓op_move, ↓op_load, ↓op_len, ↓op_call, ↓op_alloc, ↓op_store, ↓op_make, isD_d, ↓fnK_f, ↓call_H, ↓callK_H, ↓allT_nil, ↓allT_cons, ↓td_d, ↓addBox_mk, ↓addRow_mk, ↓setBox_mk, ↓st_bx, ↓st_rw, ↓cells_c, ↓vcells_l, ↓vcells_nl, ↓vcells_o, ↓one_i, ↓one_l, ↓vone_d, ↓vone_o, constV_i, constV_n, ↓st_p, ↓mk_, ↓vsz_int, ↓ty3, ↓zb3, ↓ty24, ↓sl24, ↓zb24, ↓ty99, ↓sl99, ↓zb99, List.getD_cons_zero, List.getD_cons_succ, List.set_cons_zero, List.set_cons_succ, List.cons_append, List.nil_append, List.append_nil, List.length_cons, List.length_nil, List.length_map, List.all_cons, List.all_nil, Bool.and_true, Bool.true_and, Bool.and_self, Bool.true_or, Nat.reduceAdd, Nat.reduceSub, Nat.reduceMul, Nat.zero_add, Int.toNat_natCast, evK_go, reduceIte, Nat.reduceEqDiff, Nat.reduceLT, and_self, true_and, and_true, Int.zero_add, Int.natCast_nonneg]
  (repeat refine OrH.l ?_)
  generalize ovL m L x = W at hwl hwt hwm ⊢
  refine ⟨⟨by omega, by decide⟩, ?_⟩
  refine loopW (fun k : Nat => { tm := slots 74 [(9, .p 0 0), (10, .p 1 0), (32, .d (.l (W.map U))), (33, .d (I .i64 (m : Int))), (34, .d (I .i64 k))], bx := [.d (.l (W.map U)), .o 0 0 m], rw := [some ⟨1, (lastB m W k).map (I .i64)⟩] })
    (fun k => k ≤ m) (fun k => m - k) 0 (by simp) ?_ ?_
  · refine Wkn.of [0, 1] [some 0] ?_
    have e : (lastB m W 0).map (I .i64) = List.replicate m (I .i64 0) := by unfold lastB; rw [part_zero, List.map_replicate]
    simp (implicitDefEqProofs := false) (dsimp := false) only [hwl, e, ↓vcells_l, ↓vcells_o, List.getD_cons_zero, List.getD_cons_succ, List.set_cons_zero, List.set_cons_succ, List.length_cons, List.length_nil, Bool.and_self, Nat.reduceAdd, Nat.reduceSub, Nat.reduceMul, Nat.zero_add, List.replicate, evK_go, reduceIte, Nat.reduceEqDiff, Nat.reduceLT, and_self, Int.zero_add, List.foldl_cons, List.foldl_nil, Int.cast_ofNat_Int, slots, wkL_nil, wkL_cons, wkB_nil, wkB_cons, wkR_nil, wkR_some, wkV_j, wkV_d, wkV_o, wkV_p, frz_d, oK_zs, pK_z, pK_s, reduceCtorEq]
  · intro k hk
    simp (implicitDefEqProofs := false) (dsimp := false) only [slots, ↓aw_cond, ↓aw_seq, ↓aw_reg, ↓Qseq_n, ↓ops_nil, ↓ops_cons, ↓eval_tmp, ↓put_some, ↓bK_b, ↓binE_i, ↓bi_lss, ↓op_bin, List.getD_cons_zero, List.getD_cons_succ, List.set_cons_zero, List.set_cons_succ, Nat.reduceAdd, Nat.reduceSub, Nat.reduceMul, List.replicate, evK_go, reduceIte, Nat.reduceEqDiff, Nat.reduceLT, List.foldl_cons, List.foldl_nil, Int.ofNat_lt]
    refine cdK_dec (fun h => ?_) (fun h => ?_)
    · have hkW : k < W.length := by omega
      have hlt := hwt _ (getD_mem hkW)
      have hk64 : k < 64 := by omega
      have hlB : (lastB m W k).length = m := by simp [lastB]
      have hdif := dif_lt (n := 2 ^ k) hlt
      simp (implicitDefEqProofs := false) (dsimp := false) only [h, hkW, hlt, hk64, without_call, each_call, ↓optK_some, ↓rwK_mk_, ↓atK_H, ↓atH_map, ↓nthK_H, ↓nthH_zero, ↓aw_seq, ↓aw_block, ↓aw_skip, ↓aw_rng, ↓aw_reg, ↓Qseq_n, ↓ops_nil, ↓ops_cons, ↓eval_tmp, ↓eval_int, ↓eval_func, ↓put_some, ↓put_none, ↓iK_i, ↓dK_d, ↓ldK_q, ↓ldK_p, ↓iaK_l, ↓iaK_o, ↓op_move, ↓op_assign, ↓op_load, ↓op_ia, ↓op_call, ↓op_alloc, ↓op_store, isD_d, ↓fnK_f, ↓call_H, ↓callK_H, ↓allT_nil, ↓allT_cons, ↓td_d, ↓addBox_mk, ↓setBox_mk, ↓setRow_mk, ↓st_bx, ↓row_sz, ↓row_xs, ↓cells_c, ↓vcells_c, ↓vcells_o, ↓one_i, ↓vone_d, constV_i, ↓st_p, ↓st_e, ↓hd_cons, ↓ty3, ↓zb3, ↓ty24, ↓sl24, ↓sl99, ↓ty102, List.getD_cons_zero, List.getD_cons_succ, List.set_cons_zero, List.set_cons_succ, List.cons_append, List.nil_append, List.append_nil, List.length_cons, List.length_nil, List.all_cons, List.all_nil, Bool.true_and, Bool.and_self, Bool.true_or, Nat.reduceAdd, Nat.reduceSub, Nat.reduceMul, Nat.zero_add, Int.toNat_natCast, evK_go, reduceIte, decide_true, Nat.reduceEqDiff, Nat.reduceLT, and_self, true_and, Int.zero_add, Int.ofNat_lt, Int.natCast_nonneg]
      (repeat refine OrH.l ?_)
      refine rangeW (slots 74 [(9, .p 0 0), (10, .p 1 0), (11, .p 2 0), (32, .d (.l (W.map U))), (33, .d (I .i64 (m : Int))), (34, .d (I .i64 (k : Int))), (45, .d (.f (.func 111) [.q [U (dif (W.getD k default) (2 ^ k))]]))])
        (fun _ => [.d (.l (W.map U)), .o 0 0 m, .d (I .i64 (k : Int))]) (fun P : List Nat => [some ⟨1, ((lastB m W k).set k (P.foldl (bestK W) (-1))).map (I .i64)⟩]) (fun ys P => ys = P.map Int.ofNat) []
        (by simp [slots]) (each_iter _ hdif) ?_ rfl ?_ ?_ ?_
      · simp (implicitDefEqProofs := false) (dsimp := false) only [slots, ↓eval_tmp, List.getD_cons_zero, List.getD_cons_succ, List.set_cons_zero, List.set_cons_succ, Nat.reduceAdd, Nat.reduceSub, Nat.reduceMul, List.replicate, evK_go, reduceIte, Nat.reduceEqDiff, Nat.reduceLT, List.foldl_cons, List.foldl_nil]
      · refine Wkn.of [0, 1, 2] [some 0] ?_
        simp (implicitDefEqProofs := false) (dsimp := false) only [List.foldl_nil, List.map_set, ↓vcells_c, ↓vcells_l, ↓vcells_o, List.getD_cons_zero, List.getD_cons_succ, List.set_cons_zero, List.set_cons_succ, List.length_cons, List.length_nil, Bool.and_self, Nat.reduceAdd, Nat.reduceSub, Nat.reduceMul, Nat.zero_add, List.replicate, evK_go, reduceIte, Nat.reduceEqDiff, Nat.reduceLT, and_self, Int.zero_add, List.foldl_cons, List.foldl_nil, slots, wkL_nil, wkL_cons, wkB_nil, wkB_cons, wkR_nil, wkR_some, wkV_j, wkV_d, wkV_o, wkV_p, frz_d, oK_zs, pK_z, pK_s, reduceCtorEq]
      · rintro ys y P hpx rfl
        obtain ⟨P', c, hP, rfl, hcc⟩ := prefix_map hpx
        obtain rfl : P = P' := ofNat_inj hP
        have hall : ∀ j ∈ pts (dif (W.getD k default) (2 ^ k)), j < m := fun j hj => by
          have h1 := (pts_mem _ _).1 hj
          rw [dif_bit, Bool.and_eq_true] at h1
          exact hwm k j ((pts_mem _ _).2 ⟨h1.1, h1.2.1⟩)
        have hcm : c < m := hall c (hcc.subset (by simp : c ∈ P ++ [c]))
        have hcW : c < W.length := by omega
        have hltc := hwt _ (getD_mem hcW)
        have hsl : ∀ v, ((lastB m W k).set k v).length = m := fun v => by simp [lastB]
        have hsg : ∀ v, ((lastB m W k).set k v).getD k default = v := fun v => by rw [set_getD, if_pos ⟨rfl, by rw [hlB]; exact h⟩]
        have er : ∀ v w, (List.map (I .i64) ((lastB m W k).set k v)).set k (I .i64 w) = List.map (I .i64) ((lastB m W k).set k w) := fun v w => by rw [← List.map_set, List.set_set]
        have hfold : (P ++ [c]).foldl (bestK W) (-1) = bestK W (P.foldl (bestK W) (-1)) c := by rw [List.foldl_append]; rfl
        have hrg := best_range (all := W) (P := P) (m := m) fun j hj => hall j (hcc.subset (by simp [hj]))
        simp (implicitDefEqProofs := false) (dsimp := false) only [slots, h, hsl, hsg, ↓gdK_f, ↓gval_mk, ↓gvL_zero, ↓gvL_succ, ↓optK_some, ↓rwK_mk_, ↓atK_H, ↓atH_map, ↓nthK_H, ↓nthH_zero, ↓aw_seq, ↓aw_block, ↓aw_reg, ↓aw_draw, ↓ops_nil, ↓ops_cons, ↓eval_tmp, ↓eval_int, ↓put_some, ↓iK_i, ↓ev_move, ↓ev_load, ↓ev_bin, ↓ev_ia, ↓binE_i, ↓bi_lss, ↓ldK_p, ↓ldK_e, ↓iaK_o, ↓op_assign, ↓draw_H, ↓h_cons, ↓ldH_n, ↓ldH_g, ↓q_move, ↓q_load, ↓q_bin, ↓q_ia, ↓il_move, ↓il_load, ↓il_bin, ↓il_ia, ↓st_tm, ↓row_sz, ↓row_xs, ↓cells_c, ↓vcells_c, ↓vcells_o, ↓Qn_n, ↓ty3, ↓ty24, ↓sl24, List.getD_cons_zero, List.getD_cons_succ, List.set_cons_zero, List.set_cons_succ, Bool.true_and, Bool.and_self, Nat.reduceAdd, Nat.reduceSub, Nat.reduceMul, Nat.zero_add, Int.toNat_natCast, List.replicate, evK_go, reduceIte, Nat.reduceEqDiff, Nat.reduceLT, and_self, true_and, Int.zero_add, List.foldl_cons, List.foldl_nil, Int.ofNat_lt, Int.natCast_nonneg]
        refine OrH.l ⟨DrawH.of follows_mixed (by kernel_rfl), ?_⟩
        rcases hrg with e | ⟨z, e, hz⟩
        · have e2 : bestK W (-1) c = (c : Int) := if_pos (.inl (by decide))
          rw [e] at hfold ⊢
          rw [e2] at hfold
          have hd : decide ((-1 : Int) < 0) = true := rfl
          simp (implicitDefEqProofs := false) (dsimp := false) only [hd, h, er, ↓cdK_true, ↓gdK_f, ↓gval_mk, ↓gvL_zero, ↓gvL_succ, ↓optK_some, ↓rwK_mk_, ↓nthK_H, ↓nthH_zero, ↓aw_cond, ↓aw_reg, ↓Qseq_n, ↓Qblk_n, ↓ops_nil, ↓ops_cons, ↓eval_tmp, ↓eval_bool, ↓put_some, ↓put_none, ↓bK_b, ↓iK_i, ↓dK_d, ↓ev_pick, ↓ldK_p, ↓iaK_o, ↓op_move, ↓op_load, ↓op_ia, ↓op_store, ↓h_nil, ↓h_cons, ↓ldH_n, ↓ldH_g, ↓q_pick, ↓il_move, ↓il_pick, ↓il_load, ↓il_bin, ↓il_ia, ↓il_call, ↓setRow_mk, ↓st_tm, ↓row_sz, ↓row_xs, ↓cells_c, ↓vcells_c, ↓vcells_o, ↓one_i, ↓st_e, ↓Qrd_n, ↓back_mk, ↓ty3, ↓ty24, ↓sl24, List.getD_cons_zero, List.getD_cons_succ, List.set_cons_zero, List.set_cons_succ, List.length_cons, List.length_nil, List.all_cons, List.all_nil, Bool.true_and, Bool.and_self, Nat.reduceAdd, Nat.reduceSub, Nat.reduceMul, Nat.zero_add, Int.toNat_natCast, evK_go, reduceIte, Nat.reduceEqDiff, Nat.reduceLT, and_self, true_and, Int.zero_add, Int.ofNat_lt, Int.natCast_nonneg]
          refine ⟨P ++ [c], by simp, ?_⟩
          refine Wkn.of [0, 1, 2] [some 0] ?_
          simp (implicitDefEqProofs := false) (dsimp := false) only [hfold, ↓vcells_c, ↓vcells_l, ↓vcells_o, List.getD_cons_zero, List.getD_cons_succ, List.length_cons, List.length_nil, Bool.and_self, Nat.reduceAdd, Nat.reduceSub, Nat.reduceMul, Nat.zero_add, evK_go, reduceIte, Nat.reduceEqDiff, Nat.reduceLT, and_self, Int.zero_add, slots, wkL_nil, wkL_cons, wkB_nil, wkB_cons, wkR_nil, wkR_some, wkV_j, wkV_d, wkV_o, wkV_p, frz_d, oK_zs, pK_z, pK_s, reduceCtorEq]
        · have hzW : z < W.length := by omega
          have hltz := hwt _ (getD_mem hzW)
          rw [e] at hfold ⊢
          have hd : decide ((z : Int) < 0) = false := by rw [decide_eq_false_iff_not]; omega
          simp (implicitDefEqProofs := false) (dsimp := false) only [hd, h, hcW, hzW, hsl, hsg, hltc, hltz, len_callQ, ↓cdK_false, ↓gdK_f, ↓gval_mk, ↓gvL_zero, ↓gvL_succ, ↓optK_some, ↓rwK_mk_, ↓atK_H, ↓atH_map, ↓nthK_H, ↓nthH_zero, ↓aw_cond, ↓Qseq_n, ↓eval_tmp, ↓eval_func, ↓put_some, ↓bK_b, ↓iK_i, ↓ev_move, ↓ev_pick, ↓ev_load, ↓ev_bin, ↓ev_ia, ↓binE_i, ↓bi_gtr, ↓ldK_q, ↓ldK_p, ↓ldK_e, ↓iaK_l, ↓iaK_o, isD_d, ↓fnK_f, ↓callKQ_H, ↓allT_nil, ↓allT_cons, ↓td_d, ↓h_nil, ↓h_cons, ↓ldH_n, ↓ldH_g, ↓q_call, ↓q_move, ↓q_pick, ↓q_load, ↓q_bin, ↓q_ia, ↓il_move, ↓il_pick, ↓il_load, ↓il_bin, ↓il_ia, ↓il_call, ↓st_tm, ↓row_sz, ↓row_xs, ↓cells_c, ↓vcells_c, ↓vcells_l, ↓vcells_o, ↓hd_cons, ↓ty3, ↓ty24, ↓sl24, ↓ty99, ↓sl99, ↓ty102, List.getD_cons_zero, List.getD_cons_succ, List.set_cons_zero, List.set_cons_succ, List.append_nil, List.length_cons, List.length_nil, List.all_cons, List.all_nil, Bool.true_and, Bool.and_self, Bool.true_or, Nat.reduceAdd, Nat.reduceSub, Nat.reduceMul, Nat.zero_add, Int.toNat_natCast, evK_go, reduceIte, Nat.reduceEqDiff, Nat.reduceLT, and_self, true_and, Int.zero_add, Int.ofNat_lt, Int.natCast_nonneg]
          (repeat refine OrH.l ?_)
          refine cdK_dec (fun h1 => ?_) (fun h1 => ?_)
          · have e2 : bestK W (z : Int) c = (c : Int) := if_pos (.inr (by rw [Int.toNat_natCast]; omega))
            rw [e2] at hfold
            simp (implicitDefEqProofs := false) (dsimp := false) only [h1, h, er, ↓optK_some, ↓rwK_mk_, ↓nthK_H, ↓nthH_zero, ↓aw_reg, ↓Qblk_n, ↓ops_nil, ↓ops_cons, ↓eval_tmp, ↓put_some, ↓put_none, ↓iK_i, ↓dK_d, ↓ldK_p, ↓iaK_o, ↓op_move, ↓op_load, ↓op_ia, ↓op_store, ↓setRow_mk, ↓row_sz, ↓row_xs, ↓cells_c, ↓vcells_c, ↓vcells_o, ↓one_i, ↓st_e, ↓Qrd_n, ↓back_mk, ↓ty3, ↓ty24, ↓sl24, List.getD_cons_zero, List.getD_cons_succ, List.set_cons_zero, List.set_cons_succ, List.length_cons, List.length_nil, List.all_cons, List.all_nil, Bool.true_and, Bool.and_self, Nat.reduceAdd, Nat.reduceSub, Nat.reduceMul, Nat.zero_add, Int.toNat_natCast, evK_go, reduceIte, decide_true, Nat.reduceEqDiff, Nat.reduceLT, and_self, true_and, Int.zero_add, Int.ofNat_lt, Int.natCast_nonneg]
            refine ⟨P ++ [c], by simp, ?_⟩
            refine Wkn.of [0, 1, 2] [some 0] ?_
            simp (implicitDefEqProofs := false) (dsimp := false) only [hfold, ↓vcells_c, ↓vcells_l, ↓vcells_o, List.getD_cons_zero, List.getD_cons_succ, List.length_cons, List.length_nil, Bool.and_self, Nat.reduceAdd, Nat.reduceSub, Nat.reduceMul, Nat.zero_add, evK_go, reduceIte, Nat.reduceEqDiff, Nat.reduceLT, and_self, Int.zero_add, slots, wkL_nil, wkL_cons, wkB_nil, wkB_cons, wkR_nil, wkR_some, wkV_j, wkV_d, wkV_o, wkV_p, frz_d, oK_zs, pK_z, pK_s, reduceCtorEq]
          · have e2 : bestK W (z : Int) c = (z : Int) := if_neg (by rw [Int.toNat_natCast]; omega)
            rw [e2] at hfold
            simp (implicitDefEqProofs := false) (dsimp := false) only [↓aw_skip, ↓Qblk_n, ↓Qrd_n, ↓back_mk, Nat.reduceAdd, Nat.reduceSub, Nat.reduceMul, evK_go, reduceIte, Nat.reduceEqDiff, Nat.reduceLT]
            refine ⟨P ++ [c], by simp, ?_⟩
            refine Wkn.of [0, 1, 2] [some 0] ?_
            simp (implicitDefEqProofs := false) (dsimp := false) only [hfold, ↓vcells_c, ↓vcells_l, ↓vcells_o, List.getD_cons_zero, List.getD_cons_succ, List.length_cons, List.length_nil, Bool.and_self, Nat.reduceAdd, Nat.reduceSub, Nat.reduceMul, Nat.zero_add, evK_go, reduceIte, Nat.reduceEqDiff, Nat.reduceLT, and_self, Int.zero_add, slots, wkL_nil, wkL_cons, wkB_nil, wkB_cons, wkR_nil, wkR_some, wkV_j, wkV_d, wkV_o, wkV_p, frz_d, oK_zs, pK_z, pK_s, reduceCtorEq]
      · rintro P hP
        obtain rfl : pts (dif (W.getD k default) (2 ^ k)) = P := ofNat_inj hP
        simp (implicitDefEqProofs := false) (dsimp := false) only [slots, ↓aw_reg, ↓Qseq_n, ↓Qblk_n, ↓ops_nil, ↓ops_cons, ↓eval_tmp, ↓eval_int, ↓put_some, ↓binE_i, ↓bi_add, ↓in_i64, ↓op_move, ↓op_bin, List.getD_cons_zero, List.getD_cons_succ, List.set_cons_zero, List.set_cons_succ, Nat.reduceAdd, Nat.reduceSub, Nat.reduceMul, List.replicate, evK_go, reduceIte, Nat.reduceEqDiff, Nat.reduceLT, List.foldl_cons, List.foldl_nil]
        refine ⟨by omega, k + 1, by omega, by omega, ?_⟩
        refine Wkn.of [0, 1] [some 0] ?_
        have e : lastB m W (k + 1) = (lastB m W k).set k ((pts (dif (W.getD k default) (2 ^ k))).foldl (bestK W) (-1)) := part_set (lastI W) 0 h
        simp (implicitDefEqProofs := false) (dsimp := false) only [e, ↓vcells_l, ↓vcells_o, List.getD_cons_zero, List.getD_cons_succ, List.length_cons, List.length_nil, Bool.and_self, Nat.reduceAdd, Nat.reduceSub, Nat.reduceMul, Nat.zero_add, evK_go, reduceIte, Nat.reduceEqDiff, Nat.reduceLT, and_self, Int.zero_add, Int.cast_ofNat_Int, Int.natCast_add, slots, wkL_nil, wkL_cons, wkB_nil, wkB_cons, wkR_nil, wkR_some, wkV_j, wkV_d, wkV_o, wkV_p, frz_d, oK_zs, pK_z, pK_s, reduceCtorEq]
    · obtain rfl : k = m := by omega
      simp (implicitDefEqProofs := false) (dsimp := false) only [eval_nilI, ↓optK_some, ↓rwK_mk_, ↓nthK_H, ↓nthH_zero, ↓aw_seq, ↓aw_exit, ↓aw_ret, ↓aw_reg, ↓Qseq_n, ↓Qseq_x, ↓Qblk_x, ↓Qret_r, ↓ops_nil, ↓ops_cons, ↓eval_tmp, ↓put_some, ↓ldK_p, ↓op_assign, ↓op_load, ↓td_d, ↓td_o, ↓ret_2, ↓row_xs, ↓vcells_o, ↓ty24, List.getD_cons_zero, List.getD_cons_succ, List.set_cons_zero, List.set_cons_succ, Nat.reduceAdd, Nat.reduceSub, Nat.reduceMul, evK_go, reduceIte, decide_false, Nat.reduceEqDiff, Nat.reduceLT, Nat.lt_irrefl, List.drop_zero]
      have e1 : List.take k (List.map (I .i64) (lastB k W k)) = List.map (I .i64) (lastL k W) := by
        rw [List.take_of_length_le (by simp [lastB])]
        unfold lastB lastL
        rw [part_all]
      rw [e1, erD_0]
theorem dlast_call (n : Int) (l : List (Int × Int)) (f : Int) (pure : Bool) (σ : St) (dst : Option Tmp) (K : St → Prop) : CallH Tryd.prog 68 [I .i64 n, .l (l.map lnD), I .i64 f] pure σ dst (.mk : Hid K) = OrH ((l.length < 2 ^ 62) ∧ (pure || D.flat (.t [.l ((domLast n l f).map (I .i64)), erD (domE n l f)])) = true ∧ evK (σ.put dst (.d (.t [.l ((domLast n l f).map (I .i64)), erD (domE n l f)]))) (.mk : Hid K)) (.mk : Hid (CallH Tryd.prog 68 [I .i64 n, .l (l.map lnD), I .i64 f] pure σ dst (.mk : Hid K))) := CallH.eq (dlast_spec n l f) pure σ dst K
theorem dlast_callQ (n : Int) (l : List (Int × Int)) (f : Int) (pure : Bool) (C : V → Prop) : CallQ Tryd.prog 68 [I .i64 n, .l (l.map lnD), I .i64 f] pure (.mk : Hid C) = OrH ((l.length < 2 ^ 62) ∧ (pure || D.flat (.t [.l ((domLast n l f).map (I .i64)), erD (domE n l f)])) = true ∧ evK (V.d (.t [.l ((domLast n l f).map (I .i64)), erD (domE n l f)])) (.mk : Hid C)) (.mk : Hid (CallQ Tryd.prog 68 [I .i64 n, .l (l.map lnD), I .i64 f] pure (.mk : Hid C))) := CallQ.eq (dlast_spec n l f) pure C
end Go.Proofs

namespace Go.Proofs
open Go.Aw
set_option linter.unusedSimpArgs false
set_option maxRecDepth 10000
theorem sym_take {n : Nat} {L : List (Nat × Nat)} {k : Nat} (h : k < L.length) : outS n (L ++ (L.take (k + 1)).map flip) = outF (outS n (L ++ (L.take k).map flip)) (flip (L.getD k default)) := by
  rw [take_succ_getD h, List.map_append, ← List.append_assoc]
  exact outS_snoc _ _ _
theorem beside_spec (n : Nat) (L : List (Nat × Nat)) (hpre : n ≤ 64 ∧ L.length < 2 ^ 62 ∧ Good n L) : FnR Tryd.prog 107 [I .i64 (n : Int), .l (L.map lnN)] 1 ((outS n (symL L)).map U) := by
  obtain ⟨hn, hl, hg⟩ := hpre
  have hout : n ≤ 64 ∧ L.length < 2 ^ 62 ∧ ∀ p ∈ L, p.1 < n ∧ p.2 < 64 := ⟨hn, hl, fun p hp => by have := hg p hp; omega⟩
  refine FnR.go Tryd.func107 rfl rfl Tryd.results107 Tryd.ntmps107 ?_
  simp (implicitDefEqProofs := false) (dsimp := false) only [↓aw_seq, ↓aw_reg, ↓Qseq_n, ↓ops_nil, ↓ops_cons, ↓eval_tmp, ↓eval_nil, ↓eval_func, ↓put_some, ↓op_move, ↓op_assign, ↓op_call, isD_d, ↓fnK_f, ↓call_H, ↓callK_H, ↓allT_nil, ↓allT_cons, ↓td_d, List.getD_cons_zero, List.getD_cons_succ, List.set_cons_zero, List.set_cons_succ, List.cons_append, List.nil_append, List.append_nil, List.map_cons, List.map_nil, List.length_cons, List.length_nil, List.all_cons, List.all_nil, Bool.and_self, Nat.reduceAdd, Nat.reduceSub, Nat.reduceMul, Nat.zero_add, List.replicate, evK_go, reduceIte, Nat.reduceEqDiff, Nat.reduceLT, and_self, Int.zero_add]
  simp (implicitDefEqProofs := false) (dsimp := false) only [out_call, rflat_U, ↓aw_seq, ↓aw_block, ↓aw_loop, ↓aw_reg, ↓Qseq_n, ↓ops_nil, ↓ops_cons, ↓eval_tmp, ↓eval_int, ↓put_some, ↓lenK_l, ↓op_move, ↓op_assign, ↓op_len, ↓addRow_mk, ↓st_rw, ↓sl22, List.getD_cons_zero, List.getD_cons_succ, List.set_cons_zero, List.set_cons_succ, List.nil_append, List.length_nil, List.length_map, Bool.true_and, Bool.or_true, Nat.reduceAdd, Nat.reduceSub, Nat.reduceMul, evK_go, reduceIte, Nat.reduceEqDiff, Nat.reduceLT, true_and]
  refine OrH.l (OrH.l ⟨hout, ?_⟩)
  have h0 := outS_len n L
  simp (implicitDefEqProofs := false) (dsimp := false) only [h0]
  refine loopW (fun k : Nat => { tm := slots 31 [(5, .o 0 0 n), (11, .d (.l (L.map lnN))), (12, .d (I .i64 L.length)), (13, .d (I .i64 k))], bx := [], rw := [some ⟨1, (outS n (L ++ (L.take k).map flip)).map U⟩] })
    (fun k => k ≤ L.length) (fun k => L.length - k) 0 (by simp) ?_ ?_
  · refine Wkn.of [] [some 0] ?_
    simp (implicitDefEqProofs := false) (dsimp := false) only [List.append_nil, List.getD_cons_zero, List.set_cons_zero, List.set_cons_succ, List.append_nil, List.map_nil, Bool.and_self, Nat.reduceAdd, Nat.reduceSub, Nat.reduceMul, List.replicate, evK_go, reduceIte, Nat.reduceEqDiff, Nat.reduceLT, and_self, List.take_zero, List.foldl_cons, List.foldl_nil, Int.cast_ofNat_Int, slots, wkL_nil, wkL_cons, wkB_nil, wkR_nil, wkR_some, wkV_j, wkV_d, wkV_o, frz_d, oK_zs, reduceCtorEq]
  · intro k hk
    simp (implicitDefEqProofs := false) (dsimp := false) only [slots, ↓aw_cond, ↓aw_seq, ↓aw_reg, ↓Qseq_n, ↓ops_nil, ↓ops_cons, ↓eval_tmp, ↓put_some, ↓bK_b, ↓binE_i, ↓bi_lss, ↓op_bin, List.getD_cons_zero, List.getD_cons_succ, List.set_cons_zero, List.set_cons_succ, Nat.reduceAdd, Nat.reduceSub, Nat.reduceMul, List.replicate, evK_go, reduceIte, Nat.reduceEqDiff, Nat.reduceLT, List.foldl_cons, List.foldl_nil, Int.ofNat_lt]
    refine cdK_dec (fun h => ?_) (fun h => ?_)
    · have hp := hg _ (getD_mem h)
      have hS := outS_len n (L ++ (L.take k).map flip)
      have hlt : ∀ x ∈ outS n (L ++ (L.take k).map flip), x < 2 ^ 64 := outS_lt' hn fun p hp => by
        rcases List.mem_append.1 hp with hp | hp
        · exact hg p hp
        · obtain ⟨q, hq, rfl⟩ := List.mem_map.1 hp
          have := hg q (List.mem_of_mem_take hq)
          exact ⟨this.2, this.1⟩
      have e := sym_take (n := n) h
      generalize outS n (L ++ (L.take k).map flip) = S at hS hlt e ⊢
      generalize hab : L.getD k default = p at hp e
      obtain ⟨a, b⟩ := p
      simp only at hp
      have hbS : b < S.length := by omega
      have hltb := hlt _ (getD_mem hbS)
      have ha64 : a < 64 := by omega
      simp (implicitDefEqProofs := false) (dsimp := false) only [h, lnN, hab, hbS, with_callQ, hltb, ha64, ↓optK_some, ↓rwK_mk_, ↓atK_H, ↓atH_map, ↓nthK_H, ↓nthH_zero, ↓nthH_succ, ↓aw_seq, ↓aw_block, ↓aw_skip, ↓aw_reg, ↓aw_draw, ↓Qseq_n, ↓Qblk_n, ↓ops_nil, ↓ops_cons, ↓eval_tmp, ↓eval_int, ↓eval_func, ↓put_some, ↓put_none, ↓iK_i, ↓dK_d, ↓ev_move, ↓ev_load, ↓ev_fa, ↓ev_ia, ↓binE_i, ↓bi_add, ↓in_i64, ↓ldK_q, ↓ldK_p, ↓ldK_e, ↓faK_p, ↓iaK_l, ↓iaK_o, ↓op_move, ↓op_load, ↓op_bin, ↓op_ia, ↓op_alloc, ↓op_store, isD_d, ↓fnK_f, ↓callKQ_H, ↓allT_nil, ↓allT_cons, ↓td_d, ↓draw_H, ↓h_cons, ↓ldH_t, ↓ldH_n, ↓q_call, ↓q_move, ↓q_load, ↓q_fa, ↓q_ia, ↓il_move, ↓il_load, ↓il_fa, ↓il_ia, ↓il_call, ↓il_store, ↓addBox_mk, ↓setBox_mk, ↓setRow_mk, ↓st_bx, ↓row_sz, ↓row_xs, ↓cells_c, ↓cells_s, ↓vcells_s, ↓one_i, ↓vone_d, constV_a, ↓st_p, ↓st_e, ↓ty3, ↓sl22, ↓ty41, ↓zb41, ↓fd41_0, ↓fd41_1, ↓sl99, ↓ty102, List.getD_cons_zero, List.getD_cons_succ, List.set_cons_zero, List.set_cons_succ, List.nil_append, List.append_nil, List.map_cons, List.map_nil, List.length_cons, List.length_nil, List.all_cons, List.all_nil, Bool.true_and, Bool.and_self, Bool.true_or, Nat.reduceAdd, Nat.reduceSub, Nat.reduceMul, Nat.zero_add, Nat.add_zero, Int.toNat_natCast, evK_go, reduceIte, decide_true, Nat.reduceEqDiff, Nat.reduceLT, and_self, true_and, Int.zero_add, List.take_succ_cons, List.take_nil, Int.ofNat_lt, Int.natCast_nonneg]
      refine ⟨by decide, OrH.l ⟨DrawH.of follows_mixed (by kernel_rfl), by omega, OrH.l (OrH.l ⟨by omega, by omega, k + 1, by omega, by omega, ?_⟩)⟩⟩
      refine Wkn.of [] [some 0] ?_
      simp (implicitDefEqProofs := false) (dsimp := false) only [e, outF, flip, List.map_set, List.getD_cons_zero, List.set_cons_zero, List.set_cons_succ, Bool.and_self, Nat.reduceAdd, Nat.reduceSub, Nat.reduceMul, List.replicate, evK_go, reduceIte, Nat.reduceEqDiff, Nat.reduceLT, and_self, List.foldl_cons, List.foldl_nil, Int.cast_ofNat_Int, Int.natCast_add, slots, wkL_nil, wkL_cons, wkB_nil, wkR_nil, wkR_some, wkV_j, wkV_d, wkV_o, frz_d, oK_zs, reduceCtorEq]
    · obtain rfl : k = L.length := by omega
      rw [List.take_length]
      simp (implicitDefEqProofs := false) (dsimp := false) only [↓optK_some, ↓rwK_mk_, ↓aw_seq, ↓aw_exit, ↓aw_ret, ↓aw_reg, ↓Qseq_n, ↓Qseq_x, ↓Qblk_x, ↓ops_nil, ↓ops_cons, ↓eval_tmp, ↓put_some, ↓op_move, ↓op_assign, ↓row_sz, ↓row_xs, ↓Qrow_r, ↓rowK_o, List.getD_cons_zero, List.getD_cons_succ, List.set_cons_zero, List.set_cons_succ, Bool.true_and, Nat.reduceAdd, Nat.reduceSub, Nat.reduceMul, evK_go, reduceIte, decide_false, Nat.reduceEqDiff, Nat.reduceLT, true_and, Nat.lt_irrefl]
      have h4 := outS_len n (L ++ L.map flip)
      exact List.take_of_length_le (by simp [h4])
theorem beside_call (n : Nat) (L : List (Nat × Nat)) (pure : Bool) (σ : St) (dst : Option Tmp) (K : St → Prop) : CallH Tryd.prog 107 [I .i64 (n : Int), .l (L.map lnN)] pure σ dst (.mk : Hid K) = OrH ((n ≤ 64 ∧ L.length < 2 ^ 62 ∧ Good n L) ∧ (pure || Res.flat (.row 1 ((outS n (symL L)).map U))) = true ∧ evK ((σ.addRow ⟨1, (outS n (symL L)).map U⟩).put dst (.o σ.rw.length 0 (List.length ((outS n (symL L)).map U)))) (.mk : Hid K)) (.mk : Hid (CallH Tryd.prog 107 [I .i64 (n : Int), .l (L.map lnN)] pure σ dst (.mk : Hid K))) := CallH.eqR (fun h => beside_spec n L h) pure σ dst K
theorem beside_callD (n : Nat) (L : List (Nat × Nat)) (pure : Bool) (σ : St) (dst : Option Tmp) (K : St → Prop) : CallH Tryd.prog 107 [I .i64 (n : Int), .l (L.map lnN)] pure σ dst (.mk : Hid K) = OrH ((n ≤ 64 ∧ L.length < 2 ^ 62 ∧ Good n L) ∧ (pure || D.flat (.l ((outS n (symL L)).map U))) = true ∧ evK (σ.put dst (.d (.l ((outS n (symL L)).map U)))) (.mk : Hid K)) (.mk : Hid (CallH Tryd.prog 107 [I .i64 (n : Int), .l (L.map lnN)] pure σ dst (.mk : Hid K))) := CallH.eq (fun h => ((fun h => beside_spec n L h) h).data) pure σ dst K
theorem beside_callDQ (n : Nat) (L : List (Nat × Nat)) (pure : Bool) (C : V → Prop) : CallQ Tryd.prog 107 [I .i64 (n : Int), .l (L.map lnN)] pure (.mk : Hid C) = OrH ((n ≤ 64 ∧ L.length < 2 ^ 62 ∧ Good n L) ∧ (pure || D.flat (.l ((outS n (symL L)).map U))) = true ∧ evK (V.d (.l ((outS n (symL L)).map U))) (.mk : Hid C)) (.mk : Hid (CallQ Tryd.prog 107 [I .i64 (n : Int), .l (L.map lnN)] pure (.mk : Hid C))) := CallQ.eq (fun h => ((fun h => beside_spec n L h) h).data) pure C
end Go.Proofs

namespace Go.Proofs
open Go.Aw
set_option linter.unusedSimpArgs false
set_option maxRecDepth 10000
def rootR (n : Int) (l : List (Int × Int)) : List Nat := if chk n l = 0 then (List.range n.toNat).map (rootP n.toNat (natL l)) else []
theorem wparts_spec (n : Int) (l : List (Int × Int)) (hpre : l.length < 2 ^ 62) : FnD Tryd.prog 105 [I .i64 n, .l (l.map lnD)] (.t [.l ((rootR n l).map nD), erD (chk n l)]) := by
  refine FnD.go Tryd.func105 rfl rfl Tryd.results105 Tryd.ntmps105 ?_
  simp (implicitDefEqProofs := false) (dsimp := false) only [↓aw_seq, ↓aw_reg, ↓Qseq_n, ↓ops_nil, ↓ops_cons, ↓eval_tmp, ↓eval_nil, ↓eval_func, ↓put_some, ↓op_move, ↓op_assign, ↓op_call, isD_d, ↓fnK_f, ↓call_H, ↓callK_H, ↓allT_nil, ↓allT_cons, ↓td_d, List.getD_cons_zero, List.getD_cons_succ, List.set_cons_zero, List.set_cons_succ, List.cons_append, List.nil_append, List.append_nil, List.map_cons, List.map_nil, List.length_cons, List.length_nil, List.all_cons, List.all_nil, Bool.and_self, Nat.reduceAdd, Nat.reduceSub, Nat.reduceMul, Nat.zero_add, List.replicate, evK_go, reduceIte, Nat.reduceEqDiff, Nat.reduceLT, and_self, Int.zero_add]
  simp (implicitDefEqProofs := false) (dsimp := false) only [gcheck_call, eval_nilI, ↓er_neq, er_flat, ↓cdK_not, ↓aw_cond, ↓aw_seq, ↓aw_reg, ↓Qseq_n, ↓ops_nil, ↓ops_cons, ↓eval_tmp, ↓put_some, ↓bK_b, ↓op_move, ↓op_assign, ↓op_bin, List.getD_cons_zero, List.getD_cons_succ, List.set_cons_zero, List.set_cons_succ, Bool.true_and, Bool.or_true, Nat.reduceAdd, Nat.reduceSub, Nat.reduceMul, evK_go, reduceIte, Nat.reduceEqDiff, Nat.reduceLT, true_and]
  refine OrH.l (OrH.l ⟨hpre, ?_⟩)
  refine cdK_dec (fun hc => ?_) (fun hc => ?_)
  rotate_left
  · simp (implicitDefEqProofs := false) (dsimp := false) only [rootR, hc, ↓aw_seq, ↓aw_ret, ↓aw_reg, ↓Qseq_n, ↓Qseq_r, ↓Qret_r, ↓ops_nil, ↓ops_cons, ↓eval_tmp, ↓eval_nil, ↓put_some, ↓op_move, ↓op_assign, ↓td_d, ↓td_nl, ↓ret_2, List.getD_cons_zero, List.getD_cons_succ, List.set_cons_zero, List.set_cons_succ, List.map_nil, Nat.reduceAdd, Nat.reduceSub, Nat.reduceMul, evK_go, reduceIte, decide_false, Bool.not_false, Nat.reduceEqDiff, Nat.reduceLT]
  have ok := chk_ok hc
  rw [show rootR n l = (List.range n.toNat).map (rootP n.toNat (natL l)) from if_pos hc, lnD_nat ok.rng, hc]
  have hcr := ok.cr
  have h8 := ok.hi
  have e0 := ok.n0
  clear ok hc hpre
  generalize n.toNat = m at *
  subst e0
  generalize natL l = L at *
  have hsg := symL_good hcr.2.2
  have hSl := outS_len m (symL L)
  have hSt := outS_lt' (n := m) (by omega) hsg
  have hw : 2 ^ m - 1 < 2 ^ m := by have := Nat.one_le_two_pow (n := m); omega
  have hw64 : 2 ^ m - 1 < 2 ^ 64 := Nat.lt_of_lt_of_le hw (Nat.pow_le_pow_right (by omega) (by omega))
  have hroot : ∀ k, rootP m L k = low (reach (outS m (symL L)) (2 ^ m - 1) k) := fun _ => rfl
  have hrk := fun k h => (rs_bit (n := m) (by omega) hsg (a := k) h k).2 .refl
  have hrl : ∀ k, k < m → rs m (symL L) k < 2 ^ 64 := fun k h => rs_lt (by omega) hsg h
  unfold rs at hrk hrl
  simp (implicitDefEqProofs := false) (dsimp := false) only [beside_callD, hcr, ↓aw_seq, ↓aw_block, ↓aw_skip, ↓aw_loop, ↓aw_reg, ↓Qseq_n, ↓ops_nil, ↓ops_cons, ↓eval_tmp, ↓eval_int, ↓eval_nil, ↓eval_func, ↓put_some, ↓op_move, ↓op_assign, ↓op_call, isD_d, ↓fnK_f, ↓call_H, ↓callK_H, ↓allT_nil, ↓allT_cons, ↓td_d, List.getD_cons_zero, List.getD_cons_succ, List.set_cons_zero, List.set_cons_succ, List.append_nil, List.all_cons, List.all_nil, Bool.true_and, Bool.and_self, Bool.true_or, Nat.reduceAdd, Nat.reduceSub, Nat.reduceMul, evK_go, reduceIte, decide_true, Bool.not_true, Nat.reduceEqDiff, Nat.reduceLT, and_self, true_and]
  (repeat refine OrH.l ?_)
  generalize outS m (symL L) = S at *
  refine loopW (fun k : Nat => { tm := slots 36 [(0, .d (I .i64 (m : Int))), (7, .d (.l (S.map U))), (8, .o 0 0 k), (19, .d (I .i64 (m : Int))), (20, .d (I .i64 k))], bx := [], rw := [some ⟨1, (((List.range m).take k).map (rootP m L)).map nD⟩] })
    (fun k => k ≤ m) (fun k => m - k) 0 (by simp) ?_ ?_
  · refine Wkn.of [] [none] ?_
    simp (implicitDefEqProofs := false) (dsimp := false) only [↓row_xs, List.set_cons_zero, List.set_cons_succ, List.map_nil, Bool.and_self, Nat.reduceAdd, Nat.reduceSub, Nat.reduceMul, List.replicate, evK_go, reduceIte, Nat.reduceEqDiff, Nat.reduceLT, and_self, List.take_zero, List.foldl_cons, List.foldl_nil, Int.cast_ofNat_Int, slots, wkL_nil, wkL_cons, wkB_nil, wkR_nil, wkR_new, wkV_j, wkV_d, nlK_nl, wkV_o, frz_d, oK_zn, reduceCtorEq]
  · intro k hk
    simp (implicitDefEqProofs := false) (dsimp := false) only [slots, ↓aw_cond, ↓aw_seq, ↓aw_reg, ↓Qseq_n, ↓ops_nil, ↓ops_cons, ↓eval_tmp, ↓put_some, ↓bK_b, ↓binE_i, ↓bi_lss, ↓op_bin, List.getD_cons_zero, List.getD_cons_succ, List.set_cons_zero, List.set_cons_succ, Nat.reduceAdd, Nat.reduceSub, Nat.reduceMul, List.replicate, evK_go, reduceIte, Nat.reduceEqDiff, Nat.reduceLT, List.foldl_cons, List.foldl_nil, Int.ofNat_lt]
    refine cdK_dec (fun h => ?_) (fun h => ?_)
    · have hkS : k < S.length := by omega
      have hm64 : m < 64 := by omega
      have hpre : k < S.length ∧ S.length ≤ 64 ∧ 2 ^ m - 1 < 2 ^ S.length ∧ ∀ x ∈ S, x < 2 ^ 64 := ⟨hkS, by omega, by rw [hSl]; exact hw, hSt⟩
      have hrk := hrk k h
      have hrl := hrl k h
      have hroot := hroot k
      simp (implicitDefEqProofs := false) (dsimp := false) only [h, hm64, below_call, reach_call, hpre, list_callD, hrl, ↓optK_some, ↓rwK_mk_, ↓atK_H, ↓atH_map, ↓aw_seq, ↓aw_block, ↓aw_skip, ↓aw_reg, ↓Qseq_n, ↓Qblk_n, ↓ops_nil, ↓ops_cons, ↓eval_tmp, ↓eval_int, ↓eval_func, ↓put_some, ↓iK_i, ↓dK_d, ↓binE_i, ↓bi_add, ↓in_i64, ↓ldK_q, ↓iaK_l, ↓op_move, ↓op_assign, ↓op_load, ↓op_bin, ↓op_ia, ↓op_append, ↓op_call, isD_d, ↓fnK_f, ↓call_H, ↓callK_H, ↓allT_nil, ↓allT_cons, ↓allD_nil, ↓allD_cons, ↓td_d, ↓app_mk, ↓row_sz, ↓row_xs, kill_d, kill_j, kill_o, ↓cells_c, ↓one_i, ↓ap_, ↓ap_o, ↓src_l, ↓bs_, ↓op_bs, ↓bsL_f, ↓stored_mk, ↓sl_nil, ↓sl_cons, ↓sT_move, ↓sT_assign, ↓sT_load, ↓sT_ia, ↓sT_bs, ↓sT_call, ↓vsz_int, ↓inO_1, ↓fm_nil, ↓fm_cons, ↓hd_cons, ↓ty3, ↓zb3, ↓sl24, List.getD_cons_zero, List.getD_cons_succ, List.set_cons_zero, List.set_cons_succ, List.append_nil, List.map_cons, List.map_nil, List.length_cons, List.length_nil, List.length_map, List.all_cons, List.all_nil, Bool.true_and, Bool.and_self, Bool.true_or, Bool.or_false, Nat.reduceAdd, Nat.reduceSub, Nat.reduceMul, Nat.zero_add, Int.toNat_zero, evK_go, reduceIte, decide_true, Nat.reduceEqDiff, Nat.reduceLT, and_self, true_and, Int.zero_add, List.drop_zero]
      (repeat refine OrH.l ?_)
      have hp : pts (reach S (2 ^ m - 1) k) ≠ [] := fun e => by
        have hm := (pts_mem _ _).2 ⟨by omega, hrk⟩
        rw [e] at hm; cases hm
      have e1 : (ptsI (reach S (2 ^ m - 1) k)).getD 0 default = (rootP m L k : Int) := by
        rw [hroot]
        unfold low ptsI
        cases hpp : pts (reach S (2 ^ m - 1) k) with
        | nil => exact absurd hpp hp
        | cons x t => rfl
      have hpos : 0 < (ptsI (reach S (2 ^ m - 1) k)).length := by rw [ptsI, List.length_map]; exact List.length_pos_iff.2 hp
      have e2 : (List.range m).take (k + 1) = (List.range m).take k ++ [k] := by
        rw [take_succ_getD (by simpa using h), List.getD_eq_getElem?_getD, List.getElem?_range h]; rfl
      refine ⟨hSt, ?_⟩
      (repeat refine OrH.l ?_)
      refine ⟨by omega, hpos, by decide, ⟨fun _ => trivial, by simp; omega, by omega, by omega⟩, by omega, k + 1, by omega, by omega, ?_⟩
      refine Wkn.of [] [some 0] ?_
      simp (implicitDefEqProofs := false) (dsimp := false) only [e1, e2, List.map_append, nD, List.getD_cons_zero, List.set_cons_zero, List.set_cons_succ, List.map_cons, List.map_nil, Bool.and_self, Nat.reduceAdd, Nat.reduceSub, Nat.reduceMul, List.replicate, evK_go, reduceIte, Nat.reduceEqDiff, Nat.reduceLT, and_self, List.foldl_cons, List.foldl_nil, Int.cast_ofNat_Int, Int.natCast_add, slots, wkL_nil, wkL_cons, wkB_nil, wkR_nil, wkR_some, wkV_j, wkV_d, wkV_o, frz_d, oK_zs, reduceCtorEq]
    · obtain rfl : k = m := by omega
      have e1 : (List.range k).take k = List.range k := List.take_of_length_le (by simp)
      have e2 : List.take k (List.map nD (List.map (rootP k L) (List.range k))) = ((List.range k).map (rootP k L)).map nD := List.take_of_length_le (by simp)
      simp (implicitDefEqProofs := false) (dsimp := false) only [e1, e2, erD_0, eval_nilI, ↓optK_some, ↓rwK_mk_, ↓aw_seq, ↓aw_exit, ↓aw_ret, ↓aw_reg, ↓Qseq_n, ↓Qseq_x, ↓Qblk_x, ↓Qret_r, ↓ops_nil, ↓ops_cons, ↓eval_tmp, ↓put_some, ↓op_move, ↓op_assign, ↓td_d, ↓td_o, ↓ret_2, ↓row_xs, List.getD_cons_zero, List.getD_cons_succ, List.set_cons_zero, List.set_cons_succ, Nat.reduceAdd, Nat.reduceSub, Nat.reduceMul, evK_go, reduceIte, decide_false, Nat.reduceEqDiff, Nat.reduceLT, Nat.lt_irrefl, List.drop_zero]
theorem wparts_call (n : Int) (l : List (Int × Int)) (pure : Bool) (σ : St) (dst : Option Tmp) (K : St → Prop) : CallH Tryd.prog 105 [I .i64 n, .l (l.map lnD)] pure σ dst (.mk : Hid K) = OrH ((l.length < 2 ^ 62) ∧ (pure || D.flat (.t [.l ((rootR n l).map nD), erD (chk n l)])) = true ∧ evK (σ.put dst (.d (.t [.l ((rootR n l).map nD), erD (chk n l)]))) (.mk : Hid K)) (.mk : Hid (CallH Tryd.prog 105 [I .i64 n, .l (l.map lnD)] pure σ dst (.mk : Hid K))) := CallH.eq (wparts_spec n l) pure σ dst K
theorem wparts_callQ (n : Int) (l : List (Int × Int)) (pure : Bool) (C : V → Prop) : CallQ Tryd.prog 105 [I .i64 n, .l (l.map lnD)] pure (.mk : Hid C) = OrH ((l.length < 2 ^ 62) ∧ (pure || D.flat (.t [.l ((rootR n l).map nD), erD (chk n l)])) = true ∧ evK (V.d (.t [.l ((rootR n l).map nD), erD (chk n l)])) (.mk : Hid C)) (.mk : Hid (CallQ Tryd.prog 105 [I .i64 n, .l (l.map lnD)] pure (.mk : Hid C))) := CallQ.eq (wparts_spec n l) pure C
def farR (n : Int) (l : List (Int × Int)) (f : Int) : List Int := if chk n l = 0 then (if inB f 0 (n - 1) = true then farL n.toNat (natL l) f.toNat else []) else []
def farE (n : Int) (l : List (Int × Int)) (f : Int) : Int := if chk n l = 0 then (if inB f 0 (n - 1) = true then 0 else 1) else chk n l
theorem bStart_len (n f : Nat) : (bStart n f).out.length = n := by simp [bStart]
def negK (n k : Nat) : List Int := List.replicate k (-1) ++ List.replicate (n - k) 0
theorem negK_zero (n : Nat) : negK n 0 = List.replicate n 0 := by simp [negK]
theorem negK_all (n : Nat) : negK n n = List.replicate n (-1) := by simp [negK]
theorem negK_len {n k : Nat} (h : k ≤ n) : (negK n k).length = n := by simp [negK]; omega
theorem negK_set {n k : Nat} (h : k < n) : (negK n k).set k (-1) = negK n (k + 1) := by
  refine List.ext_getElem (by simp [negK]; omega) fun i h1 h2 => ?_
  rw [List.getElem_set]
  simp (implicitDefEqProofs := false) (dsimp := false) only [negK, List.getElem_append, List.getElem_replicate, List.length_replicate]
  repeat' split
  all_goals first | rfl | omega
theorem inW_iff {x lo hi : Int} : inB x lo hi = true ↔ lo ≤ x ∧ x ≤ hi := by simp [inB]
structure FI where
  q : Nat
  pre : List Nat
  st : BS
theorem wfrom_spec (n : Int) (l : List (Int × Int)) (f : Int) (hpre : l.length < 2 ^ 62) : FnD Tryd.prog 106 [I .i64 n, .l (l.map lnD), I .i64 f] (.t [.l ((farR n l f).map (I .i64)), erD (farE n l f)]) := by
  refine FnD.go Tryd.func106 rfl rfl Tryd.results106 Tryd.ntmps106 ?_
  simp (implicitDefEqProofs := false) (dsimp := false) only [↓aw_seq, ↓aw_reg, ↓Qseq_n, ↓ops_nil, ↓ops_cons, ↓eval_tmp, ↓eval_nil, ↓eval_func, ↓put_some, ↓op_move, ↓op_assign, ↓op_call, isD_d, ↓fnK_f, ↓call_H, ↓callK_H, ↓allT_nil, ↓allT_cons, ↓td_d, List.getD_cons_zero, List.getD_cons_succ, List.set_cons_zero, List.set_cons_succ, List.cons_append, List.nil_append, List.append_nil, List.map_cons, List.map_nil, List.length_cons, List.length_nil, List.all_cons, List.all_nil, Bool.and_self, Nat.reduceAdd, Nat.reduceSub, Nat.reduceMul, Nat.zero_add, List.replicate, evK_go, reduceIte, Nat.reduceEqDiff, Nat.reduceLT, and_self, Int.zero_add]
  simp (implicitDefEqProofs := false) (dsimp := false) only [gcheck_call, eval_nilI, ↓er_neq, er_flat, ↓cdK_not, ↓aw_cond, ↓aw_seq, ↓aw_reg, ↓Qseq_n, ↓ops_nil, ↓ops_cons, ↓eval_tmp, ↓put_some, ↓bK_b, ↓op_move, ↓op_assign, ↓op_bin, List.getD_cons_zero, List.getD_cons_succ, List.set_cons_zero, List.set_cons_succ, Bool.true_and, Bool.or_true, Nat.reduceAdd, Nat.reduceSub, Nat.reduceMul, evK_go, reduceIte, Nat.reduceEqDiff, Nat.reduceLT, true_and]
  refine OrH.l (OrH.l ⟨hpre, ?_⟩)
  refine cdK_dec (fun hc => ?_) (fun hc => ?_)
  rotate_left
  · simp (implicitDefEqProofs := false) (dsimp := false) only [farR, farE, hc, ↓aw_seq, ↓aw_ret, ↓aw_reg, ↓Qseq_n, ↓Qseq_r, ↓Qret_r, ↓ops_nil, ↓ops_cons, ↓eval_tmp, ↓eval_nil, ↓put_some, ↓op_move, ↓op_assign, ↓td_d, ↓td_nl, ↓ret_2, List.getD_cons_zero, List.getD_cons_succ, List.set_cons_zero, List.set_cons_succ, List.map_nil, Nat.reduceAdd, Nat.reduceSub, Nat.reduceMul, evK_go, reduceIte, decide_false, Bool.not_false, Nat.reduceEqDiff, Nat.reduceLT]
  have ok := chk_ok hc
  have h8 := ok.hi
  have e0 := ok.n0
  simp (implicitDefEqProofs := false) (dsimp := false) only [within_call, ↓cdK_not, ↓aw_cond, ↓aw_seq, ↓aw_skip, ↓aw_reg, ↓Qseq_n, ↓ops_nil, ↓ops_cons, ↓eval_tmp, ↓eval_int, ↓eval_func, ↓put_some, ↓bK_b, ↓binE_i, ↓bi_sub, ↓in_i64, ↓op_move, ↓op_bin, ↓op_not, ↓op_call, isD_d, ↓fnK_f, ↓call_H, ↓callK_H, ↓allT_nil, ↓allT_cons, ↓td_d, List.getD_cons_zero, List.getD_cons_succ, List.set_cons_zero, List.set_cons_succ, List.append_nil, List.all_cons, List.all_nil, Bool.true_and, Bool.and_self, Bool.true_or, Nat.reduceAdd, Nat.reduceSub, Nat.reduceMul, evK_go, reduceIte, Nat.reduceEqDiff, Nat.reduceLT, and_self, true_and]
  (repeat refine OrH.l ?_)
  refine ⟨by omega, ?_⟩
  (repeat refine OrH.l ?_)
  rw [show farR n l f = (if inB f 0 (n - 1) = true then farL n.toNat (natL l) f.toNat else []) from if_pos hc, show farE n l f = (if inB f 0 (n - 1) = true then 0 else 1) from if_pos hc, lnD_nat ok.rng]
  refine cdK_split (fun hb => ?_) (fun hb => ?_)
  · obtain ⟨hf1, hf2⟩ := inW_iff.1 hb
    have hcr := ok.cr
    rw [if_pos hb, if_pos hb]
    simp (implicitDefEqProofs := false) (dsimp := false) only [hb, ↓optK_some, ↓rwK_mk_, ↓nthK_H, ↓nthH_zero, ↓aw_seq, ↓aw_block, ↓aw_skip, ↓aw_loop, ↓aw_reg, ↓Qseq_n, ↓ops_nil, ↓ops_cons, ↓eval_tmp, ↓eval_int, ↓put_some, ↓put_none, ↓iK_i, ↓dK_d, ↓lenK_o, ↓ldK_p, ↓op_move, ↓op_load, ↓op_len, ↓op_alloc, ↓op_store, ↓op_make, ↓addBox_mk, ↓addRow_mk, ↓setBox_mk, ↓st_bx, ↓st_rw, ↓cells_c, ↓vcells_nl, ↓vcells_o, ↓one_i, ↓vone_o, constV_i, constV_n, ↓st_p, ↓mk_, ↓vsz_int, ↓ty3, ↓zb3, ↓ty24, ↓sl24, ↓zb24, List.getD_cons_zero, List.getD_cons_succ, List.set_cons_zero, List.set_cons_succ, List.nil_append, List.length_cons, List.length_nil, List.all_cons, List.all_nil, Bool.and_true, Bool.true_and, Bool.and_self, Nat.reduceAdd, Nat.reduceSub, Nat.reduceMul, Nat.zero_add, evK_go, reduceIte, Bool.not_true, Nat.reduceEqDiff, Nat.reduceLT, and_self, true_and, and_true, Int.zero_add]
    refine ⟨⟨by omega, by omega, by decide⟩, ?_⟩
    rw [hc]
    have ef : f = (f.toNat : Int) := by omega
    have hfm : f.toNat < n.toNat := by omega
    clear ok hc hpre hb hf1 hf2
    generalize n.toNat = m at *
    generalize f.toNat = f' at *
    subst e0 ef
    generalize natL l = L at *
    have hsg := symL_good hcr.2.2
    have hSl := outS_len m (symL L)
    have hSt := outS_lt' (n := m) (by omega) hsg
    refine loopW (fun k : Nat => { tm := slots 79 [(0, .d (I .i64 (m : Int))), (1, .d (.l (L.map lnN))), (2, .d (I .i64 (f' : Int))), (9, .p 0 0), (29, .d (I .i64 (m : Int))), (30, .d (I .i64 k))], bx := [.o 0 0 m], rw := [some ⟨1, (negK m k).map (I .i64)⟩] })
      (fun k => k ≤ m) (fun k => m - k) 0 (by simp) ?_ ?_
    · refine Wkn.of [0] [some 0] ?_
      simp (implicitDefEqProofs := false) (dsimp := false) only [negK_zero, List.map_replicate, ↓vcells_o, List.getD_cons_zero, List.set_cons_zero, List.set_cons_succ, List.length_cons, List.length_nil, Bool.and_self, Nat.reduceAdd, Nat.reduceSub, Nat.reduceMul, Nat.zero_add, List.replicate, evK_go, reduceIte, decide_true, Bool.not_true, Nat.reduceEqDiff, Nat.reduceLT, and_self, Int.zero_add, List.foldl_cons, List.foldl_nil, Int.cast_ofNat_Int, slots, wkL_nil, wkL_cons, wkB_nil, wkB_cons, wkR_nil, wkR_some, wkV_j, wkV_d, wkV_o, wkV_p, frz_d, oK_zs, pK_z, reduceCtorEq]
    · intro k hk
      have hnl := negK_len hk
      simp (implicitDefEqProofs := false) (dsimp := false) only [slots, ↓aw_cond, ↓aw_seq, ↓aw_reg, ↓Qseq_n, ↓ops_nil, ↓ops_cons, ↓eval_tmp, ↓put_some, ↓bK_b, ↓binE_i, ↓bi_lss, ↓op_bin, List.getD_cons_zero, List.getD_cons_succ, List.set_cons_zero, List.set_cons_succ, Nat.reduceAdd, Nat.reduceSub, Nat.reduceMul, List.replicate, evK_go, reduceIte, Nat.reduceEqDiff, Nat.reduceLT, List.foldl_cons, List.foldl_nil, Int.ofNat_lt]
      refine cdK_dec (fun h => ?_) (fun h => ?_)
      · have hns := negK_set h
        simp (implicitDefEqProofs := false) (dsimp := false) only [h, ↓optK_some, ↓rwK_mk_, ↓nthK_H, ↓nthH_zero, ↓aw_seq, ↓aw_block, ↓aw_skip, ↓aw_reg, ↓Qseq_n, ↓Qblk_n, ↓ops_nil, ↓ops_cons, ↓eval_tmp, ↓eval_int, ↓put_some, ↓put_none, ↓iK_i, ↓dK_d, ↓binE_i, ↓bi_add, ↓in_i64, ↓ldK_p, ↓iaK_o, ↓op_move, ↓op_assign, ↓op_load, ↓op_bin, ↓op_ia, ↓op_store, ↓setRow_mk, ↓row_sz, ↓row_xs, ↓cells_c, ↓vcells_o, ↓one_i, ↓st_e, ↓ty3, ↓ty24, ↓sl24, List.getD_cons_zero, List.getD_cons_succ, List.set_cons_zero, List.set_cons_succ, List.length_cons, List.length_nil, List.all_cons, List.all_nil, Bool.true_and, Bool.and_self, Nat.reduceAdd, Nat.reduceSub, Nat.reduceMul, Nat.zero_add, Int.toNat_natCast, evK_go, reduceIte, decide_true, Nat.reduceEqDiff, Nat.reduceLT, and_self, true_and, Int.zero_add, Int.ofNat_lt, Int.natCast_nonneg]
        refine ⟨by omega, k + 1, by omega, by omega, ?_⟩
        refine Wkn.of [0] [some 0] ?_
        simp (implicitDefEqProofs := false) (dsimp := false) only [← hns, List.map_set, ↓vcells_o, List.getD_cons_zero, List.set_cons_zero, List.set_cons_succ, List.length_cons, List.length_nil, Bool.and_self, Nat.reduceAdd, Nat.reduceSub, Nat.reduceMul, Nat.zero_add, List.replicate, evK_go, reduceIte, Nat.reduceEqDiff, Nat.reduceLT, and_self, Int.zero_add, List.foldl_cons, List.foldl_nil, Int.cast_ofNat_Int, Int.natCast_add, slots, wkL_nil, wkL_cons, wkB_nil, wkB_cons, wkR_nil, wkR_some, wkV_j, wkV_d, wkV_o, wkV_p, frz_d, oK_zs, pK_z, reduceCtorEq]
      · obtain rfl : k = m := by omega
        have hst0 : (List.map (I .i64) (negK k k)).set f' (I .i64 0) = ((bStart k f').out).map (I .i64) := by rw [negK_all, bStart, List.map_set]
        have hbl := bStart_len k f'
        obtain ⟨hBI0, hBC0, hrm0⟩ := BI.start hsg hfm
        have hfar : farL k L f' = (bRun (outS k (symL L)) k (bStart k f')).out := rfl
        have htd : (bStart k f').todo = [f'] := rfl
        have hstep := fun s h1 h2 h3 => BI.step (n := k) (l := symL L) (f := f') (by omega) hsg (s := s) h1 h2 h3
        have hjs := fun x (hx : x < k) => BI.js hsg (f := f') hx
        have hmem := fun a b => mem_next (n := k) (by omega) hsg (i := a) (j := b)
        simp (implicitDefEqProofs := false) (dsimp := false) only [hst0, beside_callD, hcr, ↓optK_some, ↓rwK_mk_, ↓nthK_H, ↓nthH_zero, ↓aw_seq, ↓aw_block, ↓aw_exit, ↓aw_loop, ↓aw_reg, ↓Qseq_n, ↓Qseq_x, ↓Qblk_x, ↓ops_nil, ↓ops_cons, ↓eval_tmp, ↓eval_int, ↓eval_func, ↓put_some, ↓put_none, ↓iK_i, ↓dK_d, ↓ldK_p, ↓iaK_o, ↓op_move, ↓op_assign, ↓op_load, ↓op_ia, ↓op_call, ↓op_alloc, ↓op_store, isD_d, ↓fnK_f, ↓call_H, ↓callK_H, ↓allT_nil, ↓allT_cons, ↓allD_nil, ↓allD_cons, ↓td_d, ↓addBox_mk, ↓addRow_mk, ↓setBox_mk, ↓setRow_mk, ↓st_bx, ↓st_rw, ↓row_sz, ↓row_xs, ↓cells_c, ↓vcells_nl, ↓vcells_o, ↓one_i, ↓vone_o, constV_n, ↓st_p, ↓st_e, ↓bs_, ↓op_bs, ↓bsL_t, ↓stored_mk, ↓sl_nil, ↓sl_cons, ↓st_store_t, ↓sT_move, ↓sT_bs, ↓sT_alloc, ↓beq_some, ↓vsz_int, ↓inO_1, ↓fm_nil, ↓fm_cons, ↓ty3, ↓zb3, ↓ty24, ↓sl24, ↓zb24, List.getD_cons_zero, List.getD_cons_succ, List.set_cons_zero, List.set_cons_succ, List.cons_append, List.nil_append, List.append_nil, List.map_cons, List.map_nil, List.length_cons, List.length_nil, List.all_cons, List.all_nil, Bool.true_and, Bool.and_self, Bool.or_true, Bool.true_or, Bool.or_false, Nat.reduceAdd, Nat.reduceSub, Nat.reduceMul, Nat.zero_add, Int.toNat_natCast, evK_go, reduceIte, decide_true, decide_false, Nat.reduceEqDiff, Nat.reduceLT, and_self, true_and, Nat.lt_irrefl, Int.zero_add, Int.ofNat_lt, Int.natCast_nonneg]
        refine ⟨hfm, ?_⟩
        (repeat refine OrH.l ?_)
        generalize bStart k f' = s0 at *
        generalize outS k (symL L) = S at *
        refine ⟨by decide, ?_⟩
        refine loopW (fun x : FI => { tm := slots 79 [(0, .d (I .i64 (k : Int))), (9, .p 0 0), (11, .d (.l (S.map U))), (12, .p 1 0)], bx := [.o 0 0 k, .o 1 x.pre.length x.st.todo.length], rw := [some ⟨1, x.st.out.map (I .i64)⟩, some ⟨1, (x.pre ++ x.st.todo).map nD⟩] })
          (fun x => BI k (symL L) f' x.st ∧ BC (symL L) x.st (fun _ => False) ∧ x.st.todo.length + negs x.st.out ≤ x.q ∧ x.q ≤ k ∧ bRun S x.q x.st = bRun S k s0) (fun x => x.q) ⟨k, [], s0⟩ ⟨hBI0, hBC0, by show s0.todo.length + negs s0.out ≤ k; omega, Nat.le_refl _, rfl⟩ ?_ ?_
        · refine Wkn.of [0, 1] [some 0, some 1] ?_
          simp (implicitDefEqProofs := false) (dsimp := false) only [htd, nD, List.map_cons, List.map_nil, List.nil_append, List.length_nil, List.length_cons, ↓vcells_o, List.getD_cons_zero, List.getD_cons_succ, List.set_cons_zero, List.set_cons_succ, List.nil_append, List.map_cons, List.map_nil, List.length_cons, List.length_nil, Bool.and_self, Nat.reduceAdd, Nat.reduceSub, Nat.reduceMul, Nat.zero_add, List.replicate, evK_go, reduceIte, Nat.reduceEqDiff, Nat.reduceLT, and_self, Int.zero_add, List.foldl_cons, List.foldl_nil, slots, wkL_nil, wkL_cons, wkB_nil, wkB_cons, wkR_nil, wkR_some, wkV_j, wkV_d, wkV_o, wkV_p, frz_d, oK_zs, oK_s, pK_z, pK_s, reduceCtorEq]
        · rintro ⟨q, pre, s⟩ ⟨hI, hC, hr, hqk, hrun⟩
          simp only at hI hC hr hqk hrun
          simp (implicitDefEqProofs := false) (dsimp := false) only [slots, ↓optK_some, ↓rwK_mk_, ↓nthK_H, ↓nthH_zero, ↓aw_cond, ↓aw_seq, ↓aw_reg, ↓Qseq_n, ↓ops_nil, ↓ops_cons, ↓eval_tmp, ↓eval_int, ↓put_some, ↓bK_b, ↓lenK_o, ↓binE_i, ↓bi_gtr, ↓ldK_p, ↓op_load, ↓op_bin, ↓op_len, ↓vcells_o, ↓ty24, ↓sl24, List.getD_cons_zero, List.getD_cons_succ, List.set_cons_zero, List.set_cons_succ, Nat.reduceAdd, Nat.reduceSub, Nat.reduceMul, List.replicate, evK_go, reduceIte, Nat.reduceEqDiff, Nat.reduceLT, List.foldl_cons, List.foldl_nil]
          refine cdK_dec (fun h1 => ?_) (fun h1 => ?_)
          · have hne : s.todo ≠ [] := fun e => by rw [e] at h1; simp at h1
            obtain ⟨hI', hC', hr'⟩ := hstep s hI hC hne
            obtain ⟨x, t, e⟩ := List.exists_cons_of_ne_nil hne
            have ex : s.todo.getD 0 default = x := by rw [e]; rfl
            have hx := hI.todo x (by rw [e]; simp)
            have hel : (pre ++ s.todo).getD pre.length default = x := by
              rw [List.getD_eq_getElem?_getD, List.getElem?_append_right (Nat.le_refl _), Nat.sub_self, e]; rfl
            have hell : pre.length < (pre ++ s.todo).length := by rw [List.length_append, e]; simp
            have hxS : x < S.length := by omega
            have hxt := hSt _ (getD_mem hxS)
            simp (implicitDefEqProofs := false) (dsimp := false) only [hel, hell, hxS, nD, each_call, ↓optK_some, ↓rwK_mk_, ↓atK_H, ↓atH_map, ↓nthK_H, ↓nthH_zero, ↓aw_seq, ↓aw_block, ↓aw_skip, ↓aw_rng, ↓aw_reg, ↓Qseq_n, ↓ops_nil, ↓ops_cons, ↓eval_tmp, ↓eval_int, ↓eval_func, ↓put_some, ↓iK_i, ↓ldK_q, ↓ldK_p, ↓ldK_e, ↓iaK_l, ↓iaK_o, ↓op_move, ↓op_load, ↓op_ia, ↓op_call, isD_d, ↓fnK_f, ↓call_H, ↓callK_H, ↓allT_nil, ↓allT_cons, ↓td_d, ↓row_sz, ↓row_xs, ↓cells_c, ↓vcells_o, ↓hd_cons, ↓ty3, ↓ty24, ↓sl24, ↓sl99, ↓ty102, List.getD_cons_zero, List.getD_cons_succ, List.set_cons_zero, List.set_cons_succ, List.append_nil, List.length_cons, List.length_nil, List.all_cons, List.all_nil, Bool.true_and, Bool.and_self, Bool.true_or, Nat.reduceAdd, Nat.reduceSub, Nat.reduceMul, Nat.zero_add, Nat.add_zero, Int.toNat_natCast, Int.toNat_zero, evK_go, reduceIte, Nat.reduceEqDiff, Nat.reduceLT, and_self, true_and, Int.zero_add, Int.natCast_nonneg]
            refine ⟨⟨by omega, h1⟩, ?_⟩
            (repeat refine OrH.l ?_)
            refine rangeW (slots 79 [(0, .d (I .i64 (k : Int))), (9, .p 0 0), (11, .d (.l (S.map U))), (12, .p 1 0), (56, .d (.f (.func 111) [.q [U (S.getD x default)]]))])
              (fun y : FI => [.o 0 0 k, .o 1 y.pre.length y.st.todo.length]) (fun y => [some ⟨1, y.st.out.map (I .i64)⟩, some ⟨1, (y.pre ++ y.st.todo).map nD⟩])
              (fun ys y => ∃ P : List Nat, ys = P.map Int.ofNat ∧ y.st = P.foldl (bJ x) s) ⟨0, pre, s⟩
              (by simp [slots]) (each_iter _ hxt) ?_ ⟨[], rfl, rfl⟩ ?_ ?_ ?_
            · simp (implicitDefEqProofs := false) (dsimp := false) only [slots, ↓eval_tmp, List.getD_cons_zero, List.getD_cons_succ, List.set_cons_zero, List.set_cons_succ, Nat.reduceAdd, Nat.reduceSub, Nat.reduceMul, List.replicate, evK_go, reduceIte, Nat.reduceEqDiff, Nat.reduceLT, List.foldl_cons, List.foldl_nil]
            · refine Wkn.of [0, 1] [some 0, some 1] ?_
              simp (implicitDefEqProofs := false) (dsimp := false) only [↓vcells_o, List.getD_cons_zero, List.getD_cons_succ, List.set_cons_zero, List.set_cons_succ, List.length_cons, List.length_nil, Bool.and_self, Nat.reduceAdd, Nat.reduceSub, Nat.reduceMul, Nat.zero_add, List.replicate, evK_go, reduceIte, Nat.reduceEqDiff, Nat.reduceLT, and_self, Int.zero_add, List.foldl_cons, List.foldl_nil, slots, wkL_nil, wkL_cons, wkB_nil, wkB_cons, wkR_nil, wkR_some, wkV_j, wkV_d, wkV_o, wkV_p, frz_d, oK_zs, oK_s, pK_z, pK_s, reduceCtorEq]
            · rintro ys y ⟨q', pre', s'⟩ hpx ⟨P, rfl, hs'⟩
              obtain ⟨P', c, hP, rfl, hcc⟩ := prefix_map hpx
              obtain rfl : P = P' := ofNat_inj hP
              simp only at hs'
              have hcm : c ∈ pts (S.getD x default) := hcc.subset (by simp : c ∈ P ++ [c])
              have hsub : ∀ j ∈ P, (x, j) ∈ symL L := fun j hj => (hmem x j).1 (hcc.subset (by simp [hj]))
              obtain ⟨g1, g2, g3, g4, g5, g6⟩ := hjs x hx.1 P s hI hx.2 hsub
              have hn' : (P ++ [c]).foldl (bJ x) s = bJ x s' c := by rw [List.foldl_append, ← hs']; rfl
              rw [← hs'] at g1 g2 g3 g4 g5 g6
              have hck := (hsg _ ((hmem x c).1 hcm)).2
              have hol := g1.len
              have hg2 := g2 x hx.2
              have hx0 := hx.2
              rw [← hg2] at hx0
              simp (implicitDefEqProofs := false) (dsimp := false) only [slots, hck, hol, ↓optK_some, ↓rwK_mk_, ↓atK_H, ↓atH_map, ↓nthK_H, ↓nthH_zero, ↓aw_cond, ↓aw_seq, ↓aw_block, ↓aw_reg, ↓Qseq_n, ↓ops_nil, ↓ops_cons, ↓eval_tmp, ↓eval_int, ↓put_some, ↓bK_b, ↓iK_i, ↓binE_i, ↓bi_lss, ↓ldK_p, ↓ldK_e, ↓iaK_o, ↓op_move, ↓op_assign, ↓op_load, ↓op_bin, ↓op_ia, ↓row_sz, ↓row_xs, ↓cells_c, ↓vcells_o, ↓Qn_n, ↓ty3, ↓ty24, ↓sl24, List.getD_cons_zero, List.getD_cons_succ, List.set_cons_zero, List.set_cons_succ, Bool.true_and, Bool.and_self, Nat.reduceAdd, Nat.reduceSub, Nat.reduceMul, Nat.zero_add, Int.toNat_natCast, List.replicate, evK_go, reduceIte, Nat.reduceEqDiff, Nat.reduceLT, and_self, true_and, Int.zero_add, List.foldl_cons, List.foldl_nil, Int.ofNat_lt, Int.natCast_nonneg]
              refine cdK_dec (fun h2 => ?_) (fun h2 => ?_)
              · have hb2 : bJ x s' c = ⟨s'.out.set c (s'.out.getD x default + 1), s'.todo ++ [c]⟩ := if_pos h2
                obtain ⟨u, hu⟩ := g4
                have hel' : (pre' ++ s'.todo).getD pre'.length default = x := by
                  rw [List.getD_eq_getElem?_getD, List.getElem?_append_right (Nat.le_refl _), Nat.sub_self, ← hu, e]; rfl
                have hell' : pre'.length < (pre' ++ s'.todo).length := by rw [List.length_append, ← hu, e]; simp
                have htl : 0 < s'.todo.length := by rw [← hu, e]; simp
                have hxk := hx.1
                have hdr : List.drop pre'.length (List.map nD (pre' ++ s'.todo)) = List.map nD s'.todo := by rw [← List.map_drop, List.drop_left]
                have hvx : s'.out.getD x default ≤ 8 := by
                  rcases g1.val x hxk with h3 | ⟨k0, h3, _, h4⟩
                  · omega
                  · omega
                simp (implicitDefEqProofs := false) (dsimp := false) only [hel', hell', hxk, hck, hol, hdr, nD, ↓optK_some, ↓rwK_mk_, ↓atK_H, ↓atH_map, ↓nthK_H, ↓nthH_zero, ↓aw_seq, ↓aw_reg, ↓aw_draw, ↓Qseq_n, ↓Qblk_n, ↓ops_nil, ↓ops_cons, ↓eval_tmp, ↓eval_int, ↓put_some, ↓put_none, ↓iK_i, ↓dK_d, ↓ev_move, ↓ev_load, ↓ev_bin, ↓ev_ia, ↓binE_i, ↓bi_add, ↓in_i64, ↓ldK_p, ↓ldK_e, ↓iaK_o, ↓op_move, ↓op_load, ↓op_append, ↓op_store, ↓allD_nil, ↓allD_cons, ↓draw_H, ↓h_cons, ↓ldH_t, ↓ldH_n, ↓q_move, ↓q_load, ↓q_bin, ↓q_ia, ↓il_move, ↓il_load, ↓il_bin, ↓il_ia, ↓il_store, ↓setBox_mk, ↓setRow_mk, ↓app_mk, ↓st_bx, ↓row_sz, ↓row_xs, kill_d, kill_j, kill_p, kill_o, kill_e, ↓cells_c, ↓vcells_j, ↓vcells_o, ↓one_i, ↓vone_o, ↓st_p, ↓st_e, ↓ap_, ↓ap_o, ↓src_l, ↓bs_, ↓op_bs, ↓bsL_f, ↓stored_mk, ↓sl_nil, ↓sl_cons, ↓st_store_t, ↓sT_move, ↓sT_load, ↓sT_bs, ↓sT_call, ↓beq_some, ↓vsz_int, ↓inO_1, ↓fm_nil, ↓fm_cons, ↓Qrd_n, ↓back_mk, ↓ty3, ↓zb3, ↓ty24, ↓sl24, List.getD_cons_zero, List.getD_cons_succ, List.set_cons_zero, List.set_cons_succ, List.map_cons, List.map_nil, List.length_cons, List.length_nil, List.length_map, List.all_cons, List.all_nil, Bool.true_and, Bool.and_self, Bool.or_false, Nat.reduceAdd, Nat.reduceSub, Nat.reduceMul, Nat.zero_add, Nat.add_zero, Int.toNat_natCast, Int.toNat_zero, evK_go, reduceIte, decide_false, Nat.reduceEqDiff, Nat.reduceLT, and_self, true_and, Int.zero_add, Int.ofNat_lt, Int.natCast_nonneg]
                refine OrH.l ⟨DrawH.of follows_mixed (by kernel_rfl), ⟨by omega, by omega⟩, ⟨by omega, by omega⟩, by decide, ⟨fun h => (by cases h), by simp, by omega, by omega⟩, ⟨q', [], bJ x s' c⟩, ⟨P ++ [c], by simp, by rw [hn']⟩, ?_⟩
                refine Wkn.of [0, 1] [some 0, some 1] ?_
                simp (implicitDefEqProofs := false) (dsimp := false) only [hb2, List.map_set, List.nil_append, List.map_append, List.length_append, List.length_nil, nD, ↓vcells_o, List.getD_cons_zero, List.getD_cons_succ, List.set_cons_zero, List.set_cons_succ, List.nil_append, List.map_cons, List.map_nil, List.length_cons, List.length_nil, Bool.and_self, Nat.reduceAdd, Nat.reduceSub, Nat.reduceMul, Nat.zero_add, List.replicate, evK_go, reduceIte, Nat.reduceEqDiff, Nat.reduceLT, and_self, Int.zero_add, List.foldl_cons, List.foldl_nil, slots, wkL_nil, wkL_cons, wkB_nil, wkB_cons, wkR_nil, wkR_some, wkV_j, wkV_d, wkV_o, wkV_p, frz_d, oK_zs, oK_s, pK_z, pK_s, reduceCtorEq]
              · have hb2 : bJ x s' c = s' := if_neg h2
                simp (implicitDefEqProofs := false) (dsimp := false) only [↓aw_skip, ↓Qblk_n, ↓Qrd_n, ↓back_mk, Nat.reduceAdd, Nat.reduceSub, Nat.reduceMul, evK_go, reduceIte, Nat.reduceEqDiff, Nat.reduceLT]
                refine ⟨⟨q', pre', s'⟩, ⟨P ++ [c], by simp, by rw [hn', hb2]⟩, ?_⟩
                refine Wkn.of [0, 1] [some 0, some 1] ?_
                simp (implicitDefEqProofs := false) (dsimp := false) only [↓vcells_o, List.getD_cons_zero, List.getD_cons_succ, List.set_cons_zero, List.set_cons_succ, List.length_cons, List.length_nil, Bool.and_self, Nat.reduceAdd, Nat.reduceSub, Nat.reduceMul, Nat.zero_add, List.replicate, evK_go, reduceIte, Nat.reduceEqDiff, Nat.reduceLT, and_self, Int.zero_add, List.foldl_cons, List.foldl_nil, slots, wkL_nil, wkL_cons, wkB_nil, wkB_cons, wkR_nil, wkR_some, wkV_j, wkV_d, wkV_o, wkV_p, frz_d, oK_zs, oK_s, pK_z, pK_s, reduceCtorEq]
            · rintro ⟨q', pre', s'⟩ ⟨P, hP, hs'⟩
              obtain rfl : pts (S.getD x default) = P := ofNat_inj hP
              simp only at hs'
              obtain ⟨g1, g2, g3, ⟨u, hu⟩, g5, g6⟩ := hjs x hx.1 _ s hI hx.2 (fun j hj => (hmem x j).1 hj)
              have hbs : bStep S s = ⟨s'.out, s'.todo.drop 1⟩ := by unfold bStep bIn; rw [ex, ← hs']
              rw [← hs', e] at hu
              have htd' : s'.todo = x :: (t ++ u) := hu.symm
              cases q with
              | zero => rw [e] at hr; simp at hr
              | succ q =>
              have hrn : bRun S (q + 1) s = bRun S q (bStep S s) := if_neg hne
              have e3 : ((s'.todo.length : Int) - 1).toNat = (s'.todo.drop 1).length := by rw [List.length_drop]; omega
              have e4 : List.map nD (pre' ++ s'.todo) = List.map nD ((pre' ++ [x]) ++ s'.todo.drop 1) := by rw [htd']; simp
              have hlp : 0 < s'.todo.length := by rw [htd']; simp
              simp (implicitDefEqProofs := false) (dsimp := false) only [slots, ↓optK_some, ↓rwK_mk_, ↓nthK_H, ↓nthH_zero, ↓aw_seq, ↓aw_reg, ↓Qseq_n, ↓Qblk_n, ↓ops_nil, ↓ops_cons, ↓eval_tmp, ↓eval_int, ↓put_some, ↓put_none, ↓iK_i, ↓optI_none, ↓optI_some, ↓ldK_p, ↓sliK_o, ↓op_load, ↓op_slice, ↓op_alloc, ↓op_store, ↓addBox_mk, ↓setBox_mk, ↓st_bx, ↓row_sz, ↓vcells_nl, ↓vcells_o, ↓vone_o, constV_n, ↓st_p, ↓ty3, ↓ty24, ↓sl24, ↓zb24, List.getD_cons_zero, List.getD_cons_succ, List.set_cons_zero, List.set_cons_succ, List.cons_append, List.nil_append, List.length_cons, List.length_nil, List.all_cons, List.all_nil, Bool.true_and, Bool.and_self, Nat.reduceAdd, Nat.reduceSub, Nat.reduceMul, Nat.zero_add, Int.toNat_one, List.replicate, evK_go, reduceIte, Nat.reduceEqDiff, Nat.reduceLT, and_self, true_and, Option.getD_none, Option.getD_some, Int.zero_add, List.foldl_cons, List.foldl_nil, Int.ofNat_le]
              refine ⟨⟨by omega, by omega, by omega⟩, ⟨q, pre' ++ [x], bStep S s⟩, ⟨hI', hC', ?_, ?_, ?_⟩, ?_, ?_⟩
              · show (bStep S s).todo.length + negs (bStep S s).out ≤ q
                omega
              · show q ≤ k
                omega
              · rw [← hrun, hrn]
              · show q < q + 1
                omega
              · refine Wkn.of [0, 2] [some 0, some 1] ?_
                rw [hbs]
                simp (implicitDefEqProofs := false) (dsimp := false) only [e3, e4, List.length_append, List.length_cons, List.length_nil, ↓vcells_o, List.getD_cons_zero, List.getD_cons_succ, List.length_cons, List.length_nil, Bool.and_self, Nat.reduceAdd, Nat.reduceSub, Nat.reduceMul, Nat.zero_add, evK_go, reduceIte, Nat.reduceEqDiff, Nat.reduceLT, and_self, Int.zero_add, slots, wkL_nil, wkL_cons, wkB_nil, wkB_cons, wkR_nil, wkR_some, wkV_j, wkV_d, wkV_o, wkV_p, frz_d, oK_zs, oK_s, pK_z, pK_s, reduceCtorEq]
          · have ht : s.todo = [] := List.eq_nil_of_length_eq_zero (by omega)
            have hq : bRun S q s = s := by cases q with | zero => rfl | succ q => exact if_pos ht
            have hol := hI.len
            have e1 : farL k L f' = s.out := by rw [hfar, ← hrun, hq]
            have e2 : List.take k (List.map (I .i64) s.out) = List.map (I .i64) s.out := List.take_of_length_le (by simp; omega)
            simp (implicitDefEqProofs := false) (dsimp := false) only [e1, e2, erD_0, eval_nilI, ↓optK_some, ↓rwK_mk_, ↓nthK_H, ↓nthH_zero, ↓aw_seq, ↓aw_exit, ↓aw_ret, ↓aw_reg, ↓Qseq_n, ↓Qseq_x, ↓Qblk_x, ↓Qret_r, ↓ops_nil, ↓ops_cons, ↓eval_tmp, ↓put_some, ↓ldK_p, ↓op_assign, ↓op_load, ↓td_d, ↓td_o, ↓ret_2, ↓row_xs, ↓vcells_o, ↓ty24, List.getD_cons_zero, List.getD_cons_succ, List.set_cons_zero, List.set_cons_succ, Nat.reduceAdd, Nat.reduceSub, Nat.reduceMul, evK_go, reduceIte, Nat.reduceEqDiff, Nat.reduceLT, List.drop_zero]
  · simp (implicitDefEqProofs := false) (dsimp := false) only [hb, ↓aw_seq, ↓aw_ret, ↓aw_reg, ↓Qseq_n, ↓Qseq_r, ↓Qret_r, ↓ops_nil, ↓ops_cons, ↓eval_tmp, ↓eval_int, ↓eval_nil, ↓put_some, ↓vK_c, ↓op_assign, ↓op_iface, ↓td_d, ↓td_nl, ↓ret_2, ↓nc108, List.getD_cons_zero, List.getD_cons_succ, List.set_cons_zero, List.set_cons_succ, Bool.true_and, Nat.reduceAdd, Nat.reduceSub, Nat.reduceMul, evK_go, reduceIte, Bool.not_false, Nat.reduceEqDiff, Nat.reduceLT, true_and]
    rfl
theorem wfrom_call (n : Int) (l : List (Int × Int)) (f : Int) (pure : Bool) (σ : St) (dst : Option Tmp) (K : St → Prop) : CallH Tryd.prog 106 [I .i64 n, .l (l.map lnD), I .i64 f] pure σ dst (.mk : Hid K) = OrH ((l.length < 2 ^ 62) ∧ (pure || D.flat (.t [.l ((farR n l f).map (I .i64)), erD (farE n l f)])) = true ∧ evK (σ.put dst (.d (.t [.l ((farR n l f).map (I .i64)), erD (farE n l f)]))) (.mk : Hid K)) (.mk : Hid (CallH Tryd.prog 106 [I .i64 n, .l (l.map lnD), I .i64 f] pure σ dst (.mk : Hid K))) := CallH.eq (wfrom_spec n l f) pure σ dst K
theorem wfrom_callQ (n : Int) (l : List (Int × Int)) (f : Int) (pure : Bool) (C : V → Prop) : CallQ Tryd.prog 106 [I .i64 n, .l (l.map lnD), I .i64 f] pure (.mk : Hid C) = OrH ((l.length < 2 ^ 62) ∧ (pure || D.flat (.t [.l ((farR n l f).map (I .i64)), erD (farE n l f)])) = true ∧ evK (V.d (.t [.l ((farR n l f).map (I .i64)), erD (farE n l f)])) (.mk : Hid C)) (.mk : Hid (CallQ Tryd.prog 106 [I .i64 n, .l (l.map lnD), I .i64 f] pure (.mk : Hid C))) := CallQ.eq (wfrom_spec n l f) pure C
end Go.Proofs

namespace Go.Proofs
open Go.Aw
set_option linter.unusedSimpArgs false
set_option maxRecDepth 10000
def halfR (n : Int) (l : List (Int × Int)) : List Int := if chk n l = 0 then (if halfOk n.toNat (natL l) = true then halfL n.toNat (natL l) else []) else []
def halfE (n : Int) (l : List (Int × Int)) : Int := if chk n l = 0 then (if halfOk n.toNat (natL l) = true then 0 else 5) else chk n l
def mixF {α : Type} (f g : Nat → α) (n q : Nat) : List α := (List.range n).map fun j => if j < q then f j else g j
theorem mixF_len {α : Type} (f g : Nat → α) (n q : Nat) : (mixF f g n q).length = n := by simp [mixF]
theorem mixF_set {α : Type} (f g : Nat → α) {n q : Nat} (_h : q < n) : (mixF f g n q).set q (f q) = mixF f g n (q + 1) := by
  refine List.ext_getElem (by simp [mixF]) fun i h1 h2 => ?_
  rw [List.getElem_set]
  simp (implicitDefEqProofs := false) (dsimp := false) only [mixF, List.getElem_map, List.getElem_range]
  split
  · rename_i e; subst e; rw [if_pos (by omega)]
  · rename_i e
    by_cases h : i < q
    · rw [if_pos h, if_pos (by omega)]
    · rw [if_neg h, if_neg (by omega)]
theorem mixF_zero {α : Type} (f : Nat → α) (x : α) (n : Nat) : mixF f (fun _ => x) n 0 = List.replicate n x := by
  unfold mixF
  simp [List.map_const']
theorem mixF_all {α : Type} (f g : Nat → α) (n : Nat) : mixF f g n n = (List.range n).map f := by
  unfold mixF
  refine List.map_congr_left fun i hi => ?_
  rw [if_pos (List.mem_range.1 hi)]
theorem far_ok {n : Int} {l : List (Int × Int)} (h : chk n l = 0) {f : Nat} (hf : f < n.toNat) : farR n l (f : Int) = farL n.toNat (natL l) f ∧ farE n l (f : Int) = 0 := by
  have ok := chk_ok h
  have e := ok.n0
  have hb : inB (f : Int) 0 (n - 1) = true := inW_iff.2 ⟨by omega, by omega⟩
  unfold farR farE
  rw [if_pos h, if_pos h, if_pos hb, if_pos hb]
  exact ⟨rfl, rfl⟩
theorem hpart_spec (n : Int) (l : List (Int × Int)) (hpre : l.length < 2 ^ 62) : FnD Tryd.prog 71 [I .i64 n, .l (l.map lnD)] (.t [.l ((halfR n l).map (I .i64)), erD (halfE n l)]) := by
  refine FnD.go Tryd.func71 rfl rfl Tryd.results71 Tryd.ntmps71 ?_
  simp (implicitDefEqProofs := false) (dsimp := false) only [↓aw_seq, ↓aw_reg, ↓Qseq_n, ↓ops_nil, ↓ops_cons, ↓eval_tmp, ↓eval_nil, ↓eval_func, ↓put_some, ↓op_move, ↓op_assign, ↓op_call, isD_d, ↓fnK_f, ↓call_H, ↓callK_H, ↓allT_nil, ↓allT_cons, ↓td_d, List.getD_cons_zero, List.getD_cons_succ, List.set_cons_zero, List.set_cons_succ, List.cons_append, List.nil_append, List.append_nil, List.map_cons, List.map_nil, List.length_cons, List.length_nil, List.all_cons, List.all_nil, Bool.and_self, Nat.reduceAdd, Nat.reduceSub, Nat.reduceMul, Nat.zero_add, List.replicate, evK_go, reduceIte, Nat.reduceEqDiff, Nat.reduceLT, and_self, Int.zero_add]
  simp (implicitDefEqProofs := false) (dsimp := false) only [gcheck_call, eval_nilI, ↓er_neq, er_flat, ↓cdK_not, ↓aw_cond, ↓aw_seq, ↓aw_reg, ↓Qseq_n, ↓ops_nil, ↓ops_cons, ↓eval_tmp, ↓put_some, ↓bK_b, ↓op_move, ↓op_assign, ↓op_bin, List.getD_cons_zero, List.getD_cons_succ, List.set_cons_zero, List.set_cons_succ, Bool.true_and, Bool.or_true, Nat.reduceAdd, Nat.reduceSub, Nat.reduceMul, evK_go, reduceIte, Nat.reduceEqDiff, Nat.reduceLT, true_and]
  refine OrH.l (OrH.l ⟨hpre, ?_⟩)
  refine cdK_dec (fun hc => ?_) (fun hc => ?_)
  rotate_left
  · simp (implicitDefEqProofs := false) (dsimp := false) only [halfR, halfE, hc, ↓aw_seq, ↓aw_ret, ↓aw_reg, ↓Qseq_n, ↓Qseq_r, ↓Qret_r, ↓ops_nil, ↓ops_cons, ↓eval_tmp, ↓eval_nil, ↓put_some, ↓op_move, ↓op_assign, ↓td_d, ↓td_nl, ↓ret_2, List.getD_cons_zero, List.getD_cons_succ, List.set_cons_zero, List.set_cons_succ, List.map_nil, Nat.reduceAdd, Nat.reduceSub, Nat.reduceMul, evK_go, reduceIte, decide_false, Bool.not_false, Nat.reduceEqDiff, Nat.reduceLT]
  have ok := chk_ok hc
  rw [show halfR n l = (if halfOk n.toNat (natL l) = true then halfL n.toNat (natL l) else []) from if_pos hc, show halfE n l = (if halfOk n.toNat (natL l) = true then 0 else 5) from if_pos hc]
  have hR : rootR n l = (List.range n.toNat).map (rootP n.toNat (natL l)) := if_pos hc
  simp (implicitDefEqProofs := false) (dsimp := false) only [wparts_call, hpre, hc, hR, eval_nilI, ↓er_neq, ↓cdK_false, ↓nthK_H, ↓nthH_zero, ↓nthH_succ, ↓aw_cond, ↓aw_seq, ↓aw_block, ↓aw_skip, ↓aw_loop, ↓aw_reg, ↓Qseq_n, ↓ops_nil, ↓ops_cons, ↓eval_tmp, ↓eval_int, ↓eval_func, ↓put_some, ↓bK_b, ↓iK_i, ↓dK_d, ↓lenK_l, ↓tK_t, ↓op_move, ↓op_assign, ↓op_bin, ↓op_extract, ↓op_len, ↓op_call, ↓op_make, isD_d, ↓fnK_f, ↓call_H, ↓callK_H, ↓allT_nil, ↓allT_cons, ↓td_d, ↓addRow_mk, ↓st_rw, ↓cells_c, ↓one_i, constV_i, ↓mk_, ↓vsz_int, ↓ty3, ↓zb3, ↓sl24, List.getD_cons_zero, List.getD_cons_succ, List.set_cons_zero, List.set_cons_succ, List.nil_append, List.append_nil, List.length_cons, List.length_nil, List.length_map, List.all_cons, List.all_nil, Bool.and_true, Bool.true_and, Bool.and_self, Bool.true_or, Nat.reduceAdd, Nat.reduceSub, Nat.reduceMul, Nat.zero_add, evK_go, reduceIte, decide_true, Bool.not_true, Nat.reduceEqDiff, Nat.reduceLT, and_self, true_and, and_true, Int.zero_add]
  (repeat refine OrH.l ?_)
  have h8 := ok.hi
  have e0 := ok.n0
  have hlo := ok.lo
  have hrng := ok.rng
  have hcr := ok.cr
  have hll := ok.len
  have hfar := fun f hf => far_ok hc (f := f) hf
  have hroot := fun i hi => root_spec hcr.1 hcr.2.2 (i := i) hi
  have hfs := fun f hf => (far_spec hcr.1 hcr.2.2 (f := f) hf)
  refine ⟨⟨by omega, by omega, by decide⟩, ?_⟩
  have hHd : halfL n.toNat (natL l) = (List.range n.toNat).map fun i => (farL n.toNat (natL l) (rootP n.toNat (natL l) i)).getD i default % 2 := rfl
  clear hR ok
  generalize n.toNat = m at *
  obtain ⟨R, hRd⟩ : ∃ R, R = (List.range m).map (rootP m (natL l)) := ⟨_, rfl⟩
  have hRl : R.length = m := by rw [hRd]; simp
  have hRg : ∀ k, k < m → R.getD k default = rootP m (natL l) k := fun k hk => by
    rw [hRd, List.getD_eq_getElem?_getD, List.getElem?_map, List.getElem?_range hk]; rfl
  rw [← hRd]
  clear hRd
  obtain ⟨H, hH⟩ : ∃ H : Nat → Int, H = fun i => (farL m (natL l) (rootP m (natL l) i)).getD i default % 2 := ⟨_, rfl⟩
  have hHk : ∀ k, H k = (farL m (natL l) (rootP m (natL l) k)).getD k default % 2 := fun k => by rw [hH]
  refine loopW (fun k : Nat => { tm := slots 79 [(0, .d (I .i64 n)), (1, .d (.l (l.map lnD))), (9, .o 0 0 m), (33, .d (.l (R.map nD))), (34, .d (I .i64 (m : Int))), (35, .d (I .i64 k))], bx := [], rw := [some ⟨1, (mixF H (fun _ => 0) m k).map (I .i64)⟩] })
    (fun k => k ≤ m) (fun k => m - k) 0 (by simp) ?_ ?_
  · refine Wkn.of [] [some 0] ?_
    simp (implicitDefEqProofs := false) (dsimp := false) only [mixF_zero, List.map_replicate, List.length_range, List.getD_cons_zero, List.set_cons_zero, List.set_cons_succ, Bool.and_self, Nat.reduceAdd, Nat.reduceSub, Nat.reduceMul, List.replicate, evK_go, reduceIte, Nat.reduceEqDiff, Nat.reduceLT, and_self, List.foldl_cons, List.foldl_nil, Int.cast_ofNat_Int, slots, wkL_nil, wkL_cons, wkB_nil, wkR_nil, wkR_some, wkV_j, wkV_d, wkV_o, frz_d, oK_zs, reduceCtorEq]
  · intro k hk
    have hml := mixF_len H (fun _ => 0) m k
    simp (implicitDefEqProofs := false) (dsimp := false) only [slots, ↓aw_cond, ↓aw_seq, ↓aw_reg, ↓Qseq_n, ↓ops_nil, ↓ops_cons, ↓eval_tmp, ↓put_some, ↓bK_b, ↓binE_i, ↓bi_lss, ↓op_bin, List.getD_cons_zero, List.getD_cons_succ, List.set_cons_zero, List.set_cons_succ, Nat.reduceAdd, Nat.reduceSub, Nat.reduceMul, List.replicate, evK_go, reduceIte, Nat.reduceEqDiff, Nat.reduceLT, List.foldl_cons, List.foldl_nil, Int.ofNat_lt]
    refine cdK_dec (fun h => ?_) (fun h => ?_)
    · have hkR : k < R.length := by omega
      obtain ⟨hr1, hr2⟩ := hroot k h
      have hrm : rootP m (natL l) k < m := by omega
      obtain ⟨f1, f2⟩ := hfar _ hrm
      obtain ⟨f3, f4⟩ := hfs _ hrm
      obtain ⟨z, hz, _, hzm⟩ := f4 k hr2
      have hHk := hHk k
      have hms := mixF_set H (fun _ => 0) h
      simp (implicitDefEqProofs := false) (dsimp := false) only [hkR, hRg k h, nD, wfrom_call, hpre, f1, f2, eval_nilI, ↓er_neq, ↓cdK_false, ↓optK_some, ↓rwK_mk_, ↓atK_H, ↓atH_map, ↓nthK_H, ↓nthH_zero, ↓nthH_succ, ↓aw_cond, ↓aw_seq, ↓aw_block, ↓aw_skip, ↓aw_reg, ↓Qseq_n, ↓Qblk_n, ↓ops_nil, ↓ops_cons, ↓eval_tmp, ↓eval_int, ↓eval_func, ↓put_some, ↓put_none, ↓bK_b, ↓iK_i, ↓dK_d, ↓tK_t, ↓binE_i, ↓bi_add, ↓bi_rem, ↓in_i64, ↓ldK_q, ↓iaK_l, ↓iaK_o, ↓op_move, ↓op_assign, ↓op_load, ↓op_bin, ↓op_ia, ↓op_extract, ↓op_call, ↓op_store, isD_d, ↓fnK_f, ↓call_H, ↓callK_H, ↓allT_nil, ↓allT_cons, ↓td_d, ↓setRow_mk, ↓row_sz, ↓row_xs, ↓cells_c, ↓one_i, ↓st_e, ↓hd_cons, ↓ty3, ↓sl24, List.getD_cons_zero, List.getD_cons_succ, List.set_cons_zero, List.set_cons_succ, List.append_nil, List.length_cons, List.length_nil, List.all_cons, List.all_nil, Bool.true_and, Bool.and_self, Bool.true_or, Nat.reduceAdd, Nat.reduceSub, Nat.reduceMul, Nat.zero_add, Int.toNat_natCast, evK_go, reduceIte, decide_true, Bool.not_true, Nat.reduceEqDiff, Nat.reduceLT, and_self, true_and, Int.zero_add, Int.ofNat_lt, Int.natCast_nonneg]
      (repeat refine OrH.l ?_)
      refine ⟨by omega, ⟨by omega, by decide⟩, h, by omega, k + 1, by omega, by omega, ?_⟩
      refine Wkn.of [] [some 0] ?_
      simp (implicitDefEqProofs := false) (dsimp := false) only [← hms, ← hHk, List.map_set, List.getD_cons_zero, List.set_cons_zero, List.set_cons_succ, Bool.and_self, Nat.reduceAdd, Nat.reduceSub, Nat.reduceMul, List.replicate, evK_go, reduceIte, Nat.reduceEqDiff, Nat.reduceLT, and_self, List.foldl_cons, List.foldl_nil, Int.cast_ofNat_Int, Int.natCast_add, slots, wkL_nil, wkL_cons, wkB_nil, wkR_nil, wkR_some, wkV_j, wkV_d, wkV_o, frz_d, oK_zs, reduceCtorEq]
    · obtain rfl : k = m := by omega
      have hG : mixF H (fun _ => 0) k k = halfL k (natL l) := by rw [mixF_all, hHd, hH]
      have hGl : (halfL k (natL l)).length = k := by rw [hHd]; simp
      have hok : halfOk k (natL l) = (natL l).all fun p => !decide ((halfL k (natL l)).getD p.1 default = (halfL k (natL l)).getD p.2 default) := rfl
      have hgood := hcr.2.2
      rw [hG]
      simp (implicitDefEqProofs := false) (dsimp := false) only [↓aw_seq, ↓aw_block, ↓aw_exit, ↓aw_loop, ↓aw_reg, ↓Qseq_n, ↓Qseq_x, ↓Qblk_x, ↓ops_nil, ↓ops_cons, ↓eval_tmp, ↓eval_int, ↓put_some, ↓lenK_l, ↓op_move, ↓op_len, ↓sl22, List.getD_cons_zero, List.getD_cons_succ, List.set_cons_zero, List.set_cons_succ, List.length_map, Nat.reduceAdd, Nat.reduceSub, Nat.reduceMul, evK_go, reduceIte, decide_false, Nat.reduceEqDiff, Nat.reduceLT, Nat.lt_irrefl]
      generalize halfL k (natL l) = G at *
      generalize halfOk k (natL l) = B at *
      refine loopW (fun i : Nat => { tm := slots 79 [(9, .o 0 0 k), (59, .d (.l (l.map lnD))), (60, .d (I .i64 (l.length : Int))), (61, .d (I .i64 i))], bx := [], rw := [some ⟨1, G.map (I .i64)⟩] })
        (fun i => i ≤ l.length ∧ ((natL l).take i).all (fun p => !decide (G.getD p.1 default = G.getD p.2 default)) = true) (fun i => l.length - i) 0 (by simp) ?_ ?_
      · refine Wkn.of [] [some 0] ?_
        simp (implicitDefEqProofs := false) (dsimp := false) only [List.getD_cons_zero, List.set_cons_zero, List.set_cons_succ, Bool.and_self, Nat.reduceAdd, Nat.reduceSub, Nat.reduceMul, List.replicate, evK_go, reduceIte, Nat.reduceEqDiff, Nat.reduceLT, and_self, List.foldl_cons, List.foldl_nil, Int.cast_ofNat_Int, slots, wkL_nil, wkL_cons, wkB_nil, wkR_nil, wkR_some, wkV_j, wkV_d, wkV_o, frz_d, oK_zs, reduceCtorEq]
      · rintro i ⟨hi, hall⟩
        simp (implicitDefEqProofs := false) (dsimp := false) only [slots, ↓aw_cond, ↓aw_seq, ↓aw_reg, ↓Qseq_n, ↓ops_nil, ↓ops_cons, ↓eval_tmp, ↓put_some, ↓bK_b, ↓binE_i, ↓bi_lss, ↓op_bin, List.getD_cons_zero, List.getD_cons_succ, List.set_cons_zero, List.set_cons_succ, Nat.reduceAdd, Nat.reduceSub, Nat.reduceMul, List.replicate, evK_go, reduceIte, Nat.reduceEqDiff, Nat.reduceLT, List.foldl_cons, List.foldl_nil, Int.ofNat_lt]
        refine cdK_dec (fun h1 => ?_) (fun h1 => ?_)
        · have hmemi : l.getD i default ∈ l := getD_mem h1
          have hnl : i < (natL l).length := by rw [natL_len]; exact h1
          have hni : (natL l).getD i default = ((l.getD i default).1.toNat, (l.getD i default).2.toNat) := by
            unfold natL
            rw [List.getD_eq_getElem?_getD, List.getElem?_map, List.getD_eq_getElem?_getD, List.getElem?_eq_getElem h1]; rfl
          have hgi := hgood _ (hni ▸ getD_mem hnl)
          have hri := hrng _ hmemi
          have hts := take_succ_getD hnl
          rw [hni] at hts
          simp only at hgi
          simp (implicitDefEqProofs := false) (dsimp := false) only [h1, lnD, ↓optK_some, ↓rwK_mk_, ↓atK_H, ↓atH_map, ↓nthK_H, ↓nthH_zero, ↓nthH_succ, ↓aw_cond, ↓aw_seq, ↓aw_block, ↓aw_skip, ↓aw_reg, ↓aw_draw, ↓Qseq_n, ↓ops_nil, ↓ops_cons, ↓eval_tmp, ↓put_some, ↓put_none, ↓bK_b, ↓iK_i, ↓ev_move, ↓ev_load, ↓ev_bin, ↓ev_fa, ↓ev_ia, ↓binE_i, ↓bi_eql, ↓ldK_q, ↓ldK_p, ↓ldK_e, ↓faK_p, ↓iaK_l, ↓iaK_o, ↓op_load, ↓op_ia, ↓op_alloc, ↓op_store, ↓draw_H, ↓h_nil, ↓h_cons, ↓ldH_n, ↓q_move, ↓q_load, ↓q_bin, ↓q_fa, ↓q_ia, ↓il_move, ↓il_load, ↓il_bin, ↓il_fa, ↓il_ia, ↓addBox_mk, ↓setBox_mk, ↓st_bx, ↓row_sz, ↓row_xs, ↓cells_c, ↓cells_s, ↓vcells_s, ↓one_i, ↓vone_d, constV_a, ↓st_p, ↓ty3, ↓sl22, ↓sl24, ↓ty41, ↓zb41, ↓fd41_0, ↓fd41_1, List.getD_cons_zero, List.getD_cons_succ, List.set_cons_zero, List.set_cons_succ, List.nil_append, List.map_cons, List.map_nil, List.length_cons, List.length_nil, List.all_cons, List.all_nil, Bool.true_and, Bool.and_self, Nat.reduceAdd, Nat.reduceSub, Nat.reduceMul, Nat.zero_add, Nat.add_zero, Int.toNat_natCast, evK_go, reduceIte, decide_true, Nat.reduceEqDiff, Nat.reduceLT, and_self, true_and, Int.zero_add, List.take_succ_cons, List.take_nil, Int.natCast_nonneg]
          refine ⟨by decide, OrH.l ⟨DrawH.of follows_mixed (by kernel_rfl), ⟨hri.1, by omega⟩, by omega, ⟨hri.2, by omega⟩, by omega, cdK_dec (fun h2 => ?_) (fun h2 => ?_)⟩⟩
          · have hB : B = false := by
              rw [hok, ← Bool.not_eq_true]
              intro hq
              have h3 := List.all_eq_true.1 hq _ (getD_mem hnl)
              rw [hni] at h3
              have h3 : (!decide (G.getD (l.getD i default).1.toNat default = G.getD (l.getD i default).2.toNat default)) = true := h3
              rw [decide_eq_true h2] at h3
              cases h3
            rw [hB]
            simp (implicitDefEqProofs := false) (dsimp := false) only [nc108, ↓aw_seq, ↓aw_ret, ↓aw_reg, ↓Qseq_n, ↓Qseq_r, ↓Qblk_r, ↓Qret_r, ↓ops_nil, ↓ops_cons, ↓eval_tmp, ↓eval_int, ↓eval_nil, ↓put_some, ↓vK_c, ↓op_assign, ↓op_iface, ↓td_d, ↓td_nl, ↓ret_2, ↓nc108, List.getD_cons_zero, List.getD_cons_succ, List.set_cons_zero, List.set_cons_succ, Bool.true_and, Nat.reduceAdd, Nat.reduceSub, Nat.reduceMul, evK_go, reduceIte, Nat.reduceEqDiff, Nat.reduceLT, true_and]
            rfl
          · simp (implicitDefEqProofs := false) (dsimp := false) only [↓aw_skip, ↓aw_reg, ↓Qseq_n, ↓Qblk_n, ↓ops_nil, ↓ops_cons, ↓eval_tmp, ↓eval_int, ↓put_some, ↓binE_i, ↓bi_add, ↓in_i64, ↓op_move, ↓op_bin, List.getD_cons_zero, List.getD_cons_succ, List.set_cons_zero, List.set_cons_succ, Nat.reduceAdd, Nat.reduceSub, Nat.reduceMul, evK_go, reduceIte, Nat.reduceEqDiff, Nat.reduceLT]
            refine ⟨by omega, i + 1, ⟨by omega, ?_⟩, by omega, ?_⟩
            · rw [hts, List.all_append, hall, List.all_cons, List.all_nil, Bool.and_true, Bool.true_and]
              show (!decide (G.getD (l.getD i default).1.toNat default = G.getD (l.getD i default).2.toNat default)) = true
              rw [decide_eq_false h2]; rfl
            · refine Wkn.of [] [some 0] ?_
              simp (implicitDefEqProofs := false) (dsimp := false) only [List.getD_cons_zero, List.set_cons_zero, List.set_cons_succ, Bool.and_self, Nat.reduceAdd, Nat.reduceSub, Nat.reduceMul, List.replicate, evK_go, reduceIte, Nat.reduceEqDiff, Nat.reduceLT, and_self, List.foldl_cons, List.foldl_nil, Int.cast_ofNat_Int, Int.natCast_add, slots, wkL_nil, wkL_cons, wkB_nil, wkR_nil, wkR_some, wkV_j, wkV_d, wkV_o, frz_d, oK_zs, reduceCtorEq]
        · obtain rfl : i = l.length := by omega
          have hB : B = true := by
            rw [hok, ← hall]
            congr 1
            exact (List.take_of_length_le (by rw [natL_len]; exact Nat.le_refl _)).symm
          have e2 : List.take k (List.map (I .i64) G) = List.map (I .i64) G := List.take_of_length_le (by simp; omega)
          rw [hB]
          simp (implicitDefEqProofs := false) (dsimp := false) only [e2, eval_nilI, ↓optK_some, ↓rwK_mk_, ↓aw_seq, ↓aw_exit, ↓aw_ret, ↓aw_reg, ↓Qseq_n, ↓Qseq_x, ↓Qblk_x, ↓Qret_r, ↓ops_nil, ↓ops_cons, ↓eval_tmp, ↓put_some, ↓op_move, ↓op_assign, ↓td_d, ↓td_o, ↓ret_2, ↓row_xs, List.getD_cons_zero, List.getD_cons_succ, List.set_cons_zero, List.set_cons_succ, Nat.reduceAdd, Nat.reduceSub, Nat.reduceMul, evK_go, reduceIte, decide_false, Nat.reduceEqDiff, Nat.reduceLT, Nat.lt_irrefl, List.drop_zero]
          rfl
theorem hpart_call (n : Int) (l : List (Int × Int)) (pure : Bool) (σ : St) (dst : Option Tmp) (K : St → Prop) : CallH Tryd.prog 71 [I .i64 n, .l (l.map lnD)] pure σ dst (.mk : Hid K) = OrH ((l.length < 2 ^ 62) ∧ (pure || D.flat (.t [.l ((halfR n l).map (I .i64)), erD (halfE n l)])) = true ∧ evK (σ.put dst (.d (.t [.l ((halfR n l).map (I .i64)), erD (halfE n l)]))) (.mk : Hid K)) (.mk : Hid (CallH Tryd.prog 71 [I .i64 n, .l (l.map lnD)] pure σ dst (.mk : Hid K))) := CallH.eq (hpart_spec n l) pure σ dst K
theorem hpart_callQ (n : Int) (l : List (Int × Int)) (pure : Bool) (C : V → Prop) : CallQ Tryd.prog 71 [I .i64 n, .l (l.map lnD)] pure (.mk : Hid C) = OrH ((l.length < 2 ^ 62) ∧ (pure || D.flat (.t [.l ((halfR n l).map (I .i64)), erD (halfE n l)])) = true ∧ evK (V.d (.t [.l ((halfR n l).map (I .i64)), erD (halfE n l)])) (.mk : Hid C)) (.mk : Hid (CallQ Tryd.prog 71 [I .i64 n, .l (l.map lnD)] pure (.mk : Hid C))) := CallQ.eq (hpart_spec n l) pure C
end Go.Proofs

namespace Go.Proofs
open Go.Aw
set_option linter.unusedSimpArgs false
set_option maxRecDepth 10000
def oddR (n : Int) (l : List (Int × Int)) : Nat := if chk n l = 0 then oddN n.toNat (outS n.toNat (symL (natL l))) else 0
def odK (S : List Nat) (a b : Nat) : Nat → Nat
  | 0 => b
  | k + 1 => oddK S a (odK S a b k) (k + 1)
def odA (S : List Nat) (n : Nat) : Nat → Nat
  | 0 => 0
  | a + 1 => odK S a (odA S n a) n
theorem odK_eq (S : List Nat) (a b k : Nat) : odK S a b k = (List.range k).foldl (fun b k => oddK S a b (k + 1)) b := by
  induction k with
  | zero => rfl
  | succ k ih => rw [List.range_succ, List.foldl_append, ← ih]; rfl
theorem odA_eq (S : List Nat) (n a : Nat) : odA S n a = (List.range a).foldl (oddA S n) 0 := by
  induction a with
  | zero => rfl
  | succ a ih =>
    rw [List.range_succ, List.foldl_append, ← ih]
    show odK S a _ n = oddA S n _ a
    rw [odK_eq]; rfl
theorem odK_le (S : List Nat) (a b m : Nat) (hb : b ≤ m) : ∀ k, k ≤ m → odK S a b k ≤ m := by
  intro k
  induction k with
  | zero => intro _; exact hb
  | succ k ih =>
    intro h
    have := ih (by omega)
    show oddK S a (odK S a b k) (k + 1) ≤ m
    unfold oddK
    split <;> omega
theorem odA_le (S : List Nat) (m : Nat) : ∀ a, odA S m a ≤ m := by
  intro a
  induction a with
  | zero => exact Nat.zero_le _
  | succ a ih => exact odK_le S a _ m ih m (Nat.le_refl _)
theorem hodd_spec (n : Int) (l : List (Int × Int)) (hpre : l.length < 2 ^ 62) : FnD Tryd.prog 72 [I .i64 n, .l (l.map lnD)] (.t [I .i64 (oddR n l : Nat), erD (chk n l)]) := by
  refine FnD.go Tryd.func72 rfl rfl Tryd.results72 Tryd.ntmps72 ?_
  simp (implicitDefEqProofs := false) (dsimp := false) only [↓aw_seq, ↓aw_reg, ↓Qseq_n, ↓ops_nil, ↓ops_cons, ↓eval_tmp, ↓eval_int, ↓eval_func, ↓put_some, ↓op_move, ↓op_assign, ↓op_call, isD_d, ↓fnK_f, ↓call_H, ↓callK_H, ↓allT_nil, ↓allT_cons, ↓td_d, List.getD_cons_zero, List.getD_cons_succ, List.set_cons_zero, List.set_cons_succ, List.cons_append, List.nil_append, List.append_nil, List.map_cons, List.map_nil, List.length_cons, List.length_nil, List.all_cons, List.all_nil, Bool.and_self, Nat.reduceAdd, Nat.reduceSub, Nat.reduceMul, Nat.zero_add, List.replicate, evK_go, reduceIte, Nat.reduceEqDiff, Nat.reduceLT, and_self, Int.zero_add]
  simp (implicitDefEqProofs := false) (dsimp := false) only [gcheck_call, eval_nilI, ↓er_neq, er_flat, ↓cdK_not, ↓aw_cond, ↓aw_seq, ↓aw_reg, ↓Qseq_n, ↓ops_nil, ↓ops_cons, ↓eval_tmp, ↓put_some, ↓bK_b, ↓op_move, ↓op_assign, ↓op_bin, List.getD_cons_zero, List.getD_cons_succ, List.set_cons_zero, List.set_cons_succ, Bool.true_and, Bool.or_true, Nat.reduceAdd, Nat.reduceSub, Nat.reduceMul, evK_go, reduceIte, Nat.reduceEqDiff, Nat.reduceLT, true_and]
  refine OrH.l (OrH.l ⟨hpre, ?_⟩)
  refine cdK_dec (fun hc => ?_) (fun hc => ?_)
  rotate_left
  · have e1 : oddR n l = 0 := if_neg hc
    simp (implicitDefEqProofs := false) (dsimp := false) only [e1, ↓aw_seq, ↓aw_ret, ↓aw_reg, ↓Qseq_n, ↓Qseq_r, ↓Qret_r, ↓ops_nil, ↓ops_cons, ↓eval_tmp, ↓eval_int, ↓put_some, ↓op_move, ↓op_assign, ↓td_d, ↓ret_2, List.getD_cons_zero, List.getD_cons_succ, List.set_cons_zero, List.set_cons_succ, Nat.reduceAdd, Nat.reduceSub, Nat.reduceMul, evK_go, reduceIte, Nat.reduceEqDiff, Nat.reduceLT, Int.cast_ofNat_Int]
  have ok := chk_ok hc
  rw [show oddR n l = oddN n.toNat (outS n.toNat (symL (natL l))) from if_pos hc, lnD_nat ok.rng, hc]
  have hcr := ok.cr
  have h8 := ok.hi
  have e0 := ok.n0
  clear ok hc hpre
  generalize n.toNat = m at *
  subst e0
  generalize natL l = L at *
  have hsg := symL_good hcr.2.2
  have hSl := outS_len m (symL L)
  have hSt := outS_lt' (n := m) (by omega) hsg
  have hSb : ∀ a, a < m → ∀ k j, (nowS (outS m (symL L)) a k).testBit j = true → j < m := fun a ha k j h => by
    have h := (nowS_bit (n := m) (by omega) hsg ha k j).1 h
    exact h.path.lt hsg ha
  simp (implicitDefEqProofs := false) (dsimp := false) only [beside_callD, hcr, ↓aw_seq, ↓aw_block, ↓aw_skip, ↓aw_loop, ↓aw_reg, ↓Qseq_n, ↓ops_nil, ↓ops_cons, ↓eval_tmp, ↓eval_int, ↓eval_func, ↓put_some, ↓put_none, ↓op_move, ↓op_assign, ↓op_call, ↓op_alloc, ↓op_store, isD_d, ↓fnK_f, ↓call_H, ↓callK_H, ↓allT_nil, ↓allT_cons, ↓td_d, ↓addBox_mk, ↓setBox_mk, ↓st_bx, ↓vcells_l, ↓vcells_nl, ↓one_l, ↓vone_d, constV_n, ↓st_p, ↓ty99, ↓zb99, List.getD_cons_zero, List.getD_cons_succ, List.set_cons_zero, List.set_cons_succ, List.nil_append, List.append_nil, List.length_cons, List.length_nil, List.all_cons, List.all_nil, Bool.true_and, Bool.and_self, Bool.true_or, Nat.reduceAdd, Nat.reduceSub, Nat.reduceMul, Nat.zero_add, evK_go, reduceIte, decide_true, Bool.not_true, Nat.reduceEqDiff, Nat.reduceLT, and_self, true_and, Int.zero_add]
  (repeat refine OrH.l ?_)
  generalize outS m (symL L) = S at *
  have hodn : oddN m S = odA S m m := (odA_eq S m m).symm
  refine loopW (fun a : Nat => { tm := slots 64 [(0, .d (I .i64 (m : Int))), (7, .p 0 0), (8, .d (I .i64 (odA S m a : Nat))), (23, .d (I .i64 (m : Int))), (24, .d (I .i64 a))], bx := [.d (.l (S.map U))], rw := [] })
    (fun a => a ≤ m) (fun a => m - a) 0 (by simp) ?_ ?_
  · refine Wkn.of [0] [] ?_
    simp (implicitDefEqProofs := false) (dsimp := false) only [odA, ↓vcells_l, List.getD_cons_zero, List.set_cons_zero, List.set_cons_succ, List.length_cons, List.length_nil, Bool.and_self, Nat.reduceAdd, Nat.reduceSub, Nat.reduceMul, Nat.zero_add, List.replicate, evK_go, reduceIte, Nat.reduceEqDiff, Nat.reduceLT, and_self, Int.zero_add, List.foldl_cons, List.foldl_nil, Int.cast_ofNat_Int, slots, wkL_nil, wkL_cons, wkB_nil, wkB_cons, wkR_nil, wkV_j, wkV_d, wkV_p, frz_d, pK_z, reduceCtorEq]
  · intro a ha
    have hba := odA_le S m a
    simp (implicitDefEqProofs := false) (dsimp := false) only [slots, ↓aw_cond, ↓aw_seq, ↓aw_reg, ↓Qseq_n, ↓ops_nil, ↓ops_cons, ↓eval_tmp, ↓put_some, ↓bK_b, ↓binE_i, ↓bi_lss, ↓op_bin, List.getD_cons_zero, List.getD_cons_succ, List.set_cons_zero, List.set_cons_succ, Nat.reduceAdd, Nat.reduceSub, Nat.reduceMul, List.replicate, evK_go, reduceIte, Nat.reduceEqDiff, Nat.reduceLT, List.foldl_cons, List.foldl_nil, Int.ofNat_lt]
    refine cdK_dec (fun h => ?_) (fun h => ?_)
    · have ha64 : a < 64 := by omega
      simp (implicitDefEqProofs := false) (dsimp := false) only [h, ha64, with0_call, ↓aw_seq, ↓aw_block, ↓aw_skip, ↓aw_loop, ↓aw_reg, ↓Qseq_n, ↓ops_nil, ↓ops_cons, ↓eval_tmp, ↓eval_int, ↓eval_func, ↓put_some, ↓op_move, ↓op_assign, ↓op_call, isD_d, ↓fnK_f, ↓call_H, ↓callK_H, ↓allT_nil, ↓allT_cons, ↓td_d, List.getD_cons_zero, List.getD_cons_succ, List.set_cons_zero, List.set_cons_succ, List.append_nil, List.all_cons, List.all_nil, Bool.true_and, Bool.and_self, Bool.true_or, Nat.reduceAdd, Nat.reduceSub, Nat.reduceMul, evK_go, reduceIte, decide_true, Nat.reduceEqDiff, Nat.reduceLT, and_self, true_and]
      (repeat refine OrH.l ?_)
      refine loopW (fun k : Nat => { tm := slots 64 [(0, .d (I .i64 (m : Int))), (7, .p 0 0), (8, .d (I .i64 (odK S a (odA S m a) k : Nat))), (9, .d (I .i64 a)), (10, .d (U (nowS S a k))), (11, .d (I .i64 (k + 1 : Nat))), (23, .d (I .i64 (m : Int))), (24, .d (I .i64 a))], bx := [.d (.l (S.map U))], rw := [] })
        (fun k => k ≤ m) (fun k => m - k) 0 (by simp) ?_ ?_
      · refine Wkn.of [0] [] ?_
        simp (implicitDefEqProofs := false) (dsimp := false) only [odK, nowS, ↓vcells_l, List.getD_cons_zero, List.set_cons_zero, List.set_cons_succ, List.length_cons, List.length_nil, Bool.and_self, Nat.reduceAdd, Nat.reduceSub, Nat.reduceMul, Nat.zero_add, List.replicate, evK_go, reduceIte, Nat.reduceEqDiff, Nat.reduceLT, and_self, Int.zero_add, List.foldl_cons, List.foldl_nil, Int.cast_ofNat_Int, slots, wkL_nil, wkL_cons, wkB_nil, wkB_cons, wkR_nil, wkV_j, wkV_d, wkV_p, frz_d, pK_z, reduceCtorEq]
      · intro k hk
        have hbk := odK_le S a _ m hba k hk
        have hn64 := nowS_lt hSt ha64 k
        simp (implicitDefEqProofs := false) (dsimp := false) only [slots, ↓aw_cond, ↓aw_seq, ↓aw_reg, ↓Qseq_n, ↓ops_nil, ↓ops_cons, ↓eval_tmp, ↓put_some, ↓bK_b, ↓binE_i, ↓bi_leq, ↓op_move, ↓op_bin, List.getD_cons_zero, List.getD_cons_succ, List.set_cons_zero, List.set_cons_succ, Nat.reduceAdd, Nat.reduceSub, Nat.reduceMul, List.replicate, evK_go, reduceIte, Nat.reduceEqDiff, Nat.reduceLT, List.foldl_cons, List.foldl_nil, Int.cast_ofNat_Int, Int.natCast_add]
        refine cdK_dec (fun h1 => ?_) (fun h1 => ?_)
        · simp (implicitDefEqProofs := false) (dsimp := false) only [each_call, ↓aw_seq, ↓aw_block, ↓aw_skip, ↓aw_rng, ↓aw_reg, ↓Qseq_n, ↓ops_nil, ↓ops_cons, ↓eval_tmp, ↓eval_int, ↓eval_func, ↓put_some, ↓put_none, ↓op_move, ↓op_call, ↓op_alloc, ↓op_store, isD_d, ↓fnK_f, ↓call_H, ↓callK_H, ↓allT_nil, ↓allT_cons, ↓td_d, ↓addBox_mk, ↓setBox_mk, ↓st_bx, ↓vcells_c, ↓one_i, ↓vone_d, constV_i, ↓st_p, ↓ty102, ↓zb102, List.getD_cons_zero, List.getD_cons_succ, List.set_cons_zero, List.set_cons_succ, List.cons_append, List.nil_append, List.append_nil, List.length_cons, List.length_nil, List.all_cons, List.all_nil, Bool.true_and, Bool.and_self, Bool.true_or, Nat.reduceAdd, Nat.reduceSub, Nat.reduceMul, Nat.zero_add, evK_go, reduceIte, Nat.reduceEqDiff, Nat.reduceLT, and_self, true_and, Int.zero_add]
          (repeat refine OrH.l ?_)
          refine rangeW (slots 64 [(0, .d (I .i64 (m : Int))), (7, .p 0 0), (8, .d (I .i64 (odK S a (odA S m a) k : Nat))), (9, .d (I .i64 a)), (11, .d (I .i64 (k + 1 : Nat))), (12, .p 1 0), (23, .d (I .i64 (m : Int))), (24, .d (I .i64 a)), (35, .d (.f (.func 111) [.q [U (nowS S a k)]]))])
            (fun P : List Nat => [.d (.l (S.map U)), .d (U (orL S P))]) (fun _ => []) (fun ys P => ys = P.map Int.ofNat) []
            (by simp [slots]) (each_iter _ hn64) ?_ rfl ?_ ?_ ?_
          · simp (implicitDefEqProofs := false) (dsimp := false) only [slots, ↓eval_tmp, List.getD_cons_zero, List.getD_cons_succ, List.set_cons_zero, List.set_cons_succ, Nat.reduceAdd, Nat.reduceSub, Nat.reduceMul, List.replicate, evK_go, reduceIte, Nat.reduceEqDiff, Nat.reduceLT, List.foldl_cons, List.foldl_nil, Int.cast_ofNat_Int, Int.natCast_add]
          · refine Wkn.of [0, 1] [] ?_
            simp (implicitDefEqProofs := false) (dsimp := false) only [orL, List.foldl_nil, ↓vcells_c, ↓vcells_l, List.getD_cons_zero, List.getD_cons_succ, List.set_cons_zero, List.set_cons_succ, List.length_cons, List.length_nil, Bool.and_self, Nat.reduceAdd, Nat.reduceSub, Nat.reduceMul, Nat.zero_add, List.replicate, evK_go, reduceIte, Nat.reduceEqDiff, Nat.reduceLT, and_self, Int.zero_add, List.foldl_cons, List.foldl_nil, Int.cast_ofNat_Int, Int.natCast_add, slots, wkL_nil, wkL_cons, wkB_nil, wkB_cons, wkR_nil, wkV_j, wkV_d, wkV_p, frz_d, pK_z, pK_s, dc_eq, reduceCtorEq]
          · rintro ys x P hpx rfl
            obtain ⟨P', c, hP, rfl, hcc⟩ := prefix_map hpx
            obtain rfl : P = P' := ofNat_inj hP
            have hcm := (pts_mem _ _).1 (hcc.subset (by simp : c ∈ P ++ [c]))
            have hcl : c < S.length := by rw [hSl]; exact hSb a h k c hcm.2
            have hct := hSt _ (getD_mem hcl)
            have hor := orL_lt hSt P
            simp (implicitDefEqProofs := false) (dsimp := false) only [slots, hcl, hct, hor, ↓atK_H, ↓atH_map, ↓nthK_H, ↓nthH_zero, ↓aw_block, ↓aw_reg, ↓aw_draw, ↓Qblk_n, ↓ops_nil, ↓ops_cons, ↓eval_tmp, ↓put_some, ↓put_none, ↓iK_i, ↓ev_move, ↓ev_load, ↓ev_bin, ↓ev_ia, ↓binE_i, ↓bi_or, ↓ldK_q, ↓ldK_p, ↓iaK_l, ↓op_assign, ↓op_store, ↓draw_H, ↓h_cons, ↓ldH_t, ↓ldH_n, ↓q_move, ↓q_load, ↓q_bin, ↓q_ia, ↓il_move, ↓il_load, ↓il_bin, ↓il_ia, ↓il_store, ↓setBox_mk, ↓st_bx, ↓cells_c, ↓vcells_c, ↓vcells_l, ↓one_i, ↓vone_d, ↓st_p, ↓hd_cons, ↓Qn_n, ↓Qrd_n, ↓back_mk, ↓ty99, ↓sl99, ↓ty102, List.getD_cons_zero, List.getD_cons_succ, List.set_cons_zero, List.set_cons_succ, List.length_cons, List.length_nil, List.all_cons, List.all_nil, Bool.true_and, Bool.and_self, Nat.reduceAdd, Nat.reduceSub, Nat.reduceMul, Nat.zero_add, Int.toNat_natCast, List.replicate, evK_go, reduceIte, Nat.reduceEqDiff, Nat.reduceLT, and_self, true_and, Int.zero_add, List.foldl_cons, List.foldl_nil, Int.cast_ofNat_Int, Int.natCast_add, Int.natCast_nonneg]
            refine OrH.l ⟨DrawH.of follows_mixed (by kernel_rfl), ?_⟩
            refine ⟨P ++ [c], by simp, ?_⟩
            refine Wkn.of [0, 1] [] ?_
            simp (implicitDefEqProofs := false) (dsimp := false) only [orL_snoc, ↓vcells_c, ↓vcells_l, List.getD_cons_zero, List.getD_cons_succ, List.length_cons, List.length_nil, Bool.and_self, Nat.reduceAdd, Nat.reduceSub, Nat.reduceMul, Nat.zero_add, evK_go, reduceIte, Nat.reduceEqDiff, Nat.reduceLT, and_self, Int.zero_add, slots, wkL_nil, wkL_cons, wkB_nil, wkB_cons, wkR_nil, wkV_j, wkV_d, wkV_p, frz_d, pK_z, pK_s, reduceCtorEq]
          · rintro P hP
            obtain rfl : pts (nowS S a k) = P := ofNat_inj hP
            have hns : orL S (pts (nowS S a k)) = nowS S a (k + 1) := rfl
            have hn1 := nowS_lt hSt ha64 (k + 1)
            have hodd : odK S a (odA S m a) (k + 1) = oddK S a (odK S a (odA S m a) k) (k + 1) := rfl
            unfold oddK at hodd
            generalize odA S m a = B0 at *
            generalize odK S a B0 k = B at *
            have ha65 : a ≤ 64 := by omega
            simp (implicitDefEqProofs := false) (dsimp := false) only [slots, hns, ↓gdK_t, ↓gval_mk, ↓gvL_zero, ↓gvL_succ, ↓nthK_H, ↓nthH_zero, ↓aw_seq, ↓aw_reg, ↓Qseq_n, ↓Qblk_n, ↓ops_nil, ↓ops_cons, ↓ops_guard, ↓eval_tmp, ↓eval_int, ↓put_some, ↓binE_i, ↓bi_rem, ↓bi_eql, ↓ldK_p, ↓op_move, ↓op_assign, ↓op_load, ↓op_bin, ↓st_tm, ↓vcells_c, ↓ty102, List.getD_cons_zero, List.getD_cons_succ, List.set_cons_zero, List.set_cons_succ, Nat.reduceAdd, Nat.reduceSub, Nat.reduceMul, List.replicate, evK_go, reduceIte, Nat.reduceEqDiff, Nat.reduceLT, List.foldl_cons, List.foldl_nil, Int.cast_ofNat_Int, Int.natCast_add]
            refine ⟨⟨by omega, by decide⟩, cdK_dec (fun c1 => ?_) (fun c1 => ?_)⟩
            · have hU : D.c (Value.int IntKind.u64 ((nowS S a (k + 1) : Nat) : Int)) = U (nowS S a (k + 1)) := rfl
              cases hb : (nowS S a (k + 1)).testBit a with
              | false =>
                rw [hb, if_neg (fun e => by cases e.2.1)] at hodd
                simp (implicitDefEqProofs := false) (dsimp := false) only [decide_eq_true c1, hU, hasS_call, hn1, ha65, hb, ↓cdK_true, ↓cdK_false, ↓gdK_junk, ↓gdK_t, ↓gval_mk, ↓gvL_zero, ↓gvL_succ, ↓aw_cond, ↓aw_skip, ↓aw_reg, ↓Qseq_n, ↓Qblk_n, ↓ops_nil, ↓ops_cons, ↓ops_guard, ↓eval_tmp, ↓eval_int, ↓eval_bool, ↓eval_func, ↓put_some, ↓bK_b, ↓binE_i, ↓bi_add, ↓in_i64, ↓op_move, ↓op_assign, ↓op_pick, ↓op_bin, ↓op_call, isD_d, ↓fnK_f, ↓call_H, ↓callK_H, ↓allT_nil, ↓allT_cons, ↓td_d, ↓st_tm, List.getD_cons_zero, List.getD_cons_succ, List.set_cons_zero, List.set_cons_succ, List.append_nil, List.all_cons, List.all_nil, Bool.true_and, Bool.and_self, Bool.true_or, Nat.reduceAdd, Nat.reduceSub, Nat.reduceMul, evK_go, reduceIte, Nat.reduceEqDiff, Nat.reduceLT, and_self, true_and, Int.cast_ofNat_Int, Int.natCast_add]
                (repeat refine OrH.l ?_)
                refine ⟨by omega, k + 1, by omega, by omega, ?_⟩
                refine Wkn.of [0] [] ?_
                simp (implicitDefEqProofs := false) (dsimp := false) only [hodd, ↓vcells_l, List.getD_cons_zero, List.set_cons_zero, List.set_cons_succ, List.length_cons, List.length_nil, Bool.and_self, Nat.reduceAdd, Nat.reduceSub, Nat.reduceMul, Nat.zero_add, List.replicate, evK_go, reduceIte, Nat.reduceEqDiff, Nat.reduceLT, and_self, Int.zero_add, List.foldl_cons, List.foldl_nil, Int.cast_ofNat_Int, Int.natCast_add, slots, wkL_nil, wkL_cons, wkB_nil, wkB_cons, wkR_nil, wkV_j, wkV_d, wkV_p, frz_d, pK_z, reduceCtorEq]
              | true =>
                rw [hb] at hodd
                simp (implicitDefEqProofs := false) (dsimp := false) only [decide_eq_true c1, hU, hasS_call, hn1, ha65, hb, ↓cdK_true, ↓gdK_t, ↓gdK_f, ↓gval_mk, ↓gvL_zero, ↓gvL_succ, ↓ops_cons, ↓ops_guard, ↓eval_tmp, ↓eval_int, ↓eval_func, ↓put_some, ↓bK_b, ↓binE_i, ↓bi_eql, ↓op_move, ↓op_pick, ↓op_bin, ↓op_call, isD_d, ↓fnK_f, ↓call_H, ↓callK_H, ↓allT_nil, ↓allT_cons, ↓td_d, ↓st_tm, List.getD_cons_zero, List.getD_cons_succ, List.set_cons_zero, List.set_cons_succ, List.append_nil, List.all_cons, List.all_nil, Bool.true_and, Bool.and_self, Bool.true_or, Nat.reduceAdd, Nat.reduceSub, Nat.reduceMul, evK_go, reduceIte, Nat.reduceEqDiff, Nat.reduceLT, and_self, true_and]
                (repeat refine OrH.l ?_)
                refine cdK_dec (fun c2 => ?_) (fun c2 => ?_)
                · rw [if_pos ⟨by omega, rfl, .inl (by omega)⟩] at hodd
                  simp (implicitDefEqProofs := false) (dsimp := false) only [decide_eq_true c2, ↓cdK_true, ↓gdK_t, ↓gdK_f, ↓gval_mk, ↓gvL_zero, ↓gvL_succ, ↓aw_cond, ↓aw_reg, ↓Qseq_n, ↓Qblk_n, ↓ops_nil, ↓ops_cons, ↓ops_guard, ↓eval_tmp, ↓eval_int, ↓eval_bool, ↓put_some, ↓bK_b, ↓binE_i, ↓bi_add, ↓in_i64, ↓op_move, ↓op_assign, ↓op_pick, ↓op_bin, ↓st_tm, List.getD_cons_zero, List.getD_cons_succ, List.set_cons_zero, List.set_cons_succ, Nat.reduceAdd, Nat.reduceSub, Nat.reduceMul, evK_go, reduceIte, Nat.reduceEqDiff, Nat.reduceLT, Int.cast_ofNat_Int, Int.natCast_add]
                  refine ⟨by omega, k + 1, by omega, by omega, ?_⟩
                  refine Wkn.of [0] [] ?_
                  simp (implicitDefEqProofs := false) (dsimp := false) only [hodd, ↓vcells_l, List.getD_cons_zero, List.set_cons_zero, List.set_cons_succ, List.length_cons, List.length_nil, Bool.and_self, Nat.reduceAdd, Nat.reduceSub, Nat.reduceMul, Nat.zero_add, List.replicate, evK_go, reduceIte, Nat.reduceEqDiff, Nat.reduceLT, and_self, Int.zero_add, List.foldl_cons, List.foldl_nil, Int.cast_ofNat_Int, Int.natCast_add, slots, wkL_nil, wkL_cons, wkB_nil, wkB_cons, wkR_nil, wkV_j, wkV_d, wkV_p, frz_d, pK_z, reduceCtorEq]
                · simp (implicitDefEqProofs := false) (dsimp := false) only [decide_eq_false c2, ↓cdK_true, ↓cdK_false, ↓gdK_t, ↓gdK_f, ↓gval_mk, ↓gvL_zero, ↓gvL_succ, ↓aw_cond, ↓Qseq_n, ↓ops_nil, ↓ops_cons, ↓ops_guard, ↓eval_tmp, ↓put_some, ↓bK_b, ↓binE_i, ↓bi_lss, ↓op_move, ↓op_pick, ↓op_bin, ↓st_tm, List.getD_cons_zero, List.getD_cons_succ, List.set_cons_zero, List.set_cons_succ, Nat.reduceAdd, Nat.reduceSub, Nat.reduceMul, evK_go, reduceIte, Nat.reduceEqDiff, Nat.reduceLT]
                  refine cdK_dec (fun c3 => ?_) (fun c3 => ?_)
                  · rw [if_pos ⟨by omega, rfl, .inr (by omega)⟩] at hodd
                    simp (implicitDefEqProofs := false) (dsimp := false) only [decide_eq_true c3, ↓aw_reg, ↓Qseq_n, ↓Qblk_n, ↓ops_nil, ↓ops_cons, ↓eval_tmp, ↓eval_int, ↓put_some, ↓binE_i, ↓bi_add, ↓in_i64, ↓op_move, ↓op_assign, ↓op_bin, List.getD_cons_zero, List.getD_cons_succ, List.set_cons_zero, List.set_cons_succ, Nat.reduceAdd, Nat.reduceSub, Nat.reduceMul, evK_go, reduceIte, Nat.reduceEqDiff, Nat.reduceLT, Int.cast_ofNat_Int, Int.natCast_add]
                    refine ⟨by omega, k + 1, by omega, by omega, ?_⟩
                    refine Wkn.of [0] [] ?_
                    simp (implicitDefEqProofs := false) (dsimp := false) only [hodd, ↓vcells_l, List.getD_cons_zero, List.set_cons_zero, List.set_cons_succ, List.length_cons, List.length_nil, Bool.and_self, Nat.reduceAdd, Nat.reduceSub, Nat.reduceMul, Nat.zero_add, List.replicate, evK_go, reduceIte, Nat.reduceEqDiff, Nat.reduceLT, and_self, Int.zero_add, List.foldl_cons, List.foldl_nil, Int.cast_ofNat_Int, Int.natCast_add, slots, wkL_nil, wkL_cons, wkB_nil, wkB_cons, wkR_nil, wkV_j, wkV_d, wkV_p, frz_d, pK_z, reduceCtorEq]
                  · rw [if_neg (fun e => by rcases e.2.2 with e | e <;> omega)] at hodd
                    simp (implicitDefEqProofs := false) (dsimp := false) only [decide_eq_false c3, ↓aw_skip, ↓aw_reg, ↓Qseq_n, ↓Qblk_n, ↓ops_nil, ↓ops_cons, ↓eval_tmp, ↓eval_int, ↓put_some, ↓binE_i, ↓bi_add, ↓in_i64, ↓op_move, ↓op_assign, ↓op_bin, List.getD_cons_zero, List.getD_cons_succ, List.set_cons_zero, List.set_cons_succ, Nat.reduceAdd, Nat.reduceSub, Nat.reduceMul, evK_go, reduceIte, Nat.reduceEqDiff, Nat.reduceLT, Int.cast_ofNat_Int, Int.natCast_add]
                    refine ⟨by omega, k + 1, by omega, by omega, ?_⟩
                    refine Wkn.of [0] [] ?_
                    simp (implicitDefEqProofs := false) (dsimp := false) only [hodd, ↓vcells_l, List.getD_cons_zero, List.set_cons_zero, List.set_cons_succ, List.length_cons, List.length_nil, Bool.and_self, Nat.reduceAdd, Nat.reduceSub, Nat.reduceMul, Nat.zero_add, List.replicate, evK_go, reduceIte, Nat.reduceEqDiff, Nat.reduceLT, and_self, Int.zero_add, List.foldl_cons, List.foldl_nil, Int.cast_ofNat_Int, Int.natCast_add, slots, wkL_nil, wkL_cons, wkB_nil, wkB_cons, wkR_nil, wkV_j, wkV_d, wkV_p, frz_d, pK_z, reduceCtorEq]
            · rw [if_neg (fun e => c1 (by omega))] at hodd
              simp (implicitDefEqProofs := false) (dsimp := false) only [decide_eq_false c1, ↓cdK_false, ↓gdK_junk, ↓gdK_t, ↓gval_mk, ↓gvL_zero, ↓gvL_succ, ↓aw_cond, ↓aw_skip, ↓aw_reg, ↓Qseq_n, ↓Qblk_n, ↓ops_nil, ↓ops_cons, ↓ops_guard, ↓eval_tmp, ↓eval_int, ↓eval_bool, ↓put_some, ↓bK_b, ↓binE_i, ↓bi_add, ↓in_i64, ↓op_move, ↓op_assign, ↓op_pick, ↓op_bin, ↓st_tm, List.getD_cons_zero, List.getD_cons_succ, List.set_cons_zero, List.set_cons_succ, Nat.reduceAdd, Nat.reduceSub, Nat.reduceMul, evK_go, reduceIte, Nat.reduceEqDiff, Nat.reduceLT, Int.cast_ofNat_Int, Int.natCast_add]
              refine ⟨by omega, k + 1, by omega, by omega, ?_⟩
              refine Wkn.of [0] [] ?_
              simp (implicitDefEqProofs := false) (dsimp := false) only [hodd, ↓vcells_l, List.getD_cons_zero, List.set_cons_zero, List.set_cons_succ, List.length_cons, List.length_nil, Bool.and_self, Nat.reduceAdd, Nat.reduceSub, Nat.reduceMul, Nat.zero_add, List.replicate, evK_go, reduceIte, Nat.reduceEqDiff, Nat.reduceLT, and_self, Int.zero_add, List.foldl_cons, List.foldl_nil, Int.cast_ofNat_Int, Int.natCast_add, slots, wkL_nil, wkL_cons, wkB_nil, wkB_cons, wkR_nil, wkV_j, wkV_d, wkV_p, frz_d, pK_z, reduceCtorEq]
        · obtain rfl : k = m := by omega
          have ha1 : odA S k (a + 1) = odK S a (odA S k a) k := rfl
          simp (implicitDefEqProofs := false) (dsimp := false) only [eval_nilI, ↓aw_seq, ↓aw_exit, ↓aw_ret, ↓aw_reg, ↓Qseq_n, ↓Qseq_x, ↓Qblk_n, ↓Qblk_x, ↓Qret_r, ↓ops_nil, ↓ops_cons, ↓eval_tmp, ↓eval_int, ↓put_some, ↓binE_i, ↓bi_add, ↓in_i64, ↓op_move, ↓op_assign, ↓op_bin, ↓td_d, ↓ret_2, List.getD_cons_zero, List.getD_cons_succ, List.set_cons_zero, List.set_cons_succ, Nat.reduceAdd, Nat.reduceSub, Nat.reduceMul, evK_go, reduceIte, Nat.reduceEqDiff, Nat.reduceLT]
          refine ⟨by omega, a + 1, by omega, by omega, ?_⟩
          refine Wkn.of [0] [] ?_
          simp (implicitDefEqProofs := false) (dsimp := false) only [ha1, ↓vcells_l, List.getD_cons_zero, List.set_cons_zero, List.set_cons_succ, List.length_cons, List.length_nil, Bool.and_self, Nat.reduceAdd, Nat.reduceSub, Nat.reduceMul, Nat.zero_add, List.replicate, evK_go, reduceIte, Nat.reduceEqDiff, Nat.reduceLT, and_self, Int.zero_add, List.foldl_cons, List.foldl_nil, Int.cast_ofNat_Int, Int.natCast_add, slots, wkL_nil, wkL_cons, wkB_nil, wkB_cons, wkR_nil, wkV_j, wkV_d, wkV_p, frz_d, pK_z, reduceCtorEq]
    · obtain rfl : a = m := by omega
      simp (implicitDefEqProofs := false) (dsimp := false) only [hodn, eval_nilI, ↓aw_seq, ↓aw_exit, ↓aw_ret, ↓aw_reg, ↓Qseq_n, ↓Qseq_x, ↓Qblk_x, ↓Qret_r, ↓ops_nil, ↓ops_cons, ↓eval_tmp, ↓put_some, ↓op_move, ↓op_assign, ↓td_d, ↓ret_2, List.getD_cons_zero, List.getD_cons_succ, List.set_cons_zero, List.set_cons_succ, Nat.reduceAdd, Nat.reduceSub, Nat.reduceMul, evK_go, reduceIte, decide_false, Nat.reduceEqDiff, Nat.reduceLT, Nat.lt_irrefl]
      rfl
theorem hodd_call (n : Int) (l : List (Int × Int)) (pure : Bool) (σ : St) (dst : Option Tmp) (K : St → Prop) : CallH Tryd.prog 72 [I .i64 n, .l (l.map lnD)] pure σ dst (.mk : Hid K) = OrH ((l.length < 2 ^ 62) ∧ (pure || D.flat (.t [I .i64 (oddR n l : Nat), erD (chk n l)])) = true ∧ evK (σ.put dst (.d (.t [I .i64 (oddR n l : Nat), erD (chk n l)]))) (.mk : Hid K)) (.mk : Hid (CallH Tryd.prog 72 [I .i64 n, .l (l.map lnD)] pure σ dst (.mk : Hid K))) := CallH.eq (hodd_spec n l) pure σ dst K
theorem hodd_callQ (n : Int) (l : List (Int × Int)) (pure : Bool) (C : V → Prop) : CallQ Tryd.prog 72 [I .i64 n, .l (l.map lnD)] pure (.mk : Hid C) = OrH ((l.length < 2 ^ 62) ∧ (pure || D.flat (.t [I .i64 (oddR n l : Nat), erD (chk n l)])) = true ∧ evK (V.d (.t [I .i64 (oddR n l : Nat), erD (chk n l)])) (.mk : Hid C)) (.mk : Hid (CallQ Tryd.prog 72 [I .i64 n, .l (l.map lnD)] pure (.mk : Hid C))) := CallQ.eq (hodd_spec n l) pure C
end Go.Proofs

namespace Go.Proofs
open Go.RowKit Go.Extern.Stop Go.Stop Go.Extern

/-- errors.As(nil, target). -/
theorem as_nil (t : Value) (w : World) :
    Calls Tryd.prog 113 #[.nilIface, t] w fun e w' => e = .returned (.bool false) ∧ w' = w := by
  go_enter Tryd.func113, Tryd.ntmps113
  go_wp2
  go_ret
  exact ⟨rfl, rfl⟩

/-! ### CLOSED FACTS ON THE MODEL's ENTRIES FOR internal/reflectlite, at this program's types: 25: *p.E · 27: **p.E · 23: error · 45: reflectlite's rtype · 1: how many package-level variables the dump has -/
theorem AsE.valueOf27 (t : Addr) (w : World) : (ReflectliteValue.unpack (.iface 126 (.pointer (some t)))).run Tryd.prog w
    = .ok (.agg #[.pointer (some ⟨1, 126, none⟩), .pointer (some ⟨w.heap.size, 0, none⟩), .int .u64 150]) (w.alloc (.cells #[.pointer (some t)] 126)) := by kernel_rfl
theorem AsE.type27 (a : Addr) (w : World) : (ReflectliteValue.methodAny (ReflectliteValue.valueError "reflectlite.Value.Type" 0) (fun t _ _ _ => ReflectliteType.toType t) #[.agg #[.pointer (some ⟨1, 126, none⟩), .pointer (some a), .int .u64 150]]).run Tryd.prog w
    = .ok (.iface 142 (.agg #[.pointer (some ⟨1, 126, none⟩)])) w := by kernel_rfl
theorem AsE.methodKind (h : Value) (w : World) : (Go.method 284 142 (.agg #[h]) "Kind").run Tryd.prog w = .ok (138, h) w := by kernel_rfl
theorem AsE.kind27 (w : World) : ((ReflectliteType.abiMethod fun t => (fun a : Nat => Value.int IntKind.u8 (a : Int)) <$> Rtype.kind t) #[.pointer (some ⟨1, 126, none⟩)]).run Tryd.prog w = .ok (.int .u8 22) w := by kernel_rfl
theorem AsE.kind25 (w : World) : ((ReflectliteType.abiMethod fun t => (fun a : Nat => Value.int IntKind.u8 (a : Int)) <$> Rtype.kind t) #[.pointer (some ⟨1, 108, none⟩)]).run Tryd.prog w = .ok (.int .u8 2) w := by kernel_rfl

/-! ### THE ENTRIES THAT READ OR WRITE MEMORY: laws with a premise on the cell (after Derived/Lib/ReflectliteSlice.lean's manner: each unfolding a lemma of its own, by rfl) -/
theorem rlm (z : Sem Value) (f : TypeId → Addr → Nat → Nat → Sem Value) (v : Value) :
    ReflectliteValue.method z f #[v] = (do match ← ReflectliteValue.parts v with | none => z | some (t, a, fl) => f t a fl (fl % 32)) := rfl
theorem AsE.parts27 (a : Addr) (w : World) : (ReflectliteValue.parts (.agg #[.pointer (some ⟨1, 126, none⟩), .pointer (some a), .int .u64 150])).run Tryd.prog w = .ok (some (126, a, 150)) w := by kernel_rfl
/-- (Value).IsNil at the Value of a **p.E that is not nil. -/
theorem AsE.isNil27 (a p : Addr) (W : World) (ha : W.cell? a = some (.pointer (some p))) :
    (ReflectliteValue.method (ReflectliteValue.valueError "reflectlite.Value.IsNil" 0) ReflectliteValue.isNil #[.agg #[.pointer (some ⟨1, 126, none⟩), .pointer (some a), .int .u64 150]]).run Tryd.prog W = .ok (.bool false) W := by
  rw [rlm]
  simp only [Sem.run_bind, AsE.parts27, Result.andThen]
  simp [ReflectliteValue.isNil, loadVar, isAgg, underlying, Tryd.underlying126, ha, Result.andThen]

theorem AsE.methodElem (h : Value) (w : World) : (Go.method 284 142 (.agg #[h]) "Elem").run Tryd.prog w = .ok (148, .agg #[h]) w := by kernel_rfl
theorem AsE.methodImplements (h : Value) (w : World) : (Go.method 284 142 (.agg #[h]) "Implements").run Tryd.prog w = .ok (149, .agg #[h]) w := by kernel_rfl
theorem AsE.methodAssignableTo (h : Value) (w : World) : (Go.method 284 142 (.agg #[h]) "AssignableTo").run Tryd.prog w = .ok (146, .agg #[h]) w := by kernel_rfl
theorem AsE.elem27 (w : World) : (ReflectliteType.method ReflectliteType.elem #[.agg #[.pointer (some ⟨1, 126, none⟩)]]).run Tryd.prog w = .ok (.iface 142 (.agg #[.pointer (some ⟨1, 108, none⟩)])) w := by kernel_rfl
theorem AsE.implements25 (w : World) : (ReflectliteType.relation "Implements" ReflectliteType.implements_ #[.agg #[.pointer (some ⟨1, 108, none⟩)], .iface 142 (.agg #[.pointer (some ⟨1, 29, none⟩)])]).run Tryd.prog w = .ok (.bool true) w := by kernel_rfl
theorem AsE.typeOf25 (v : Value) (w : World) : (ReflectliteType.typeOf #[.iface 108 v]).run Tryd.prog w = .ok (.iface 142 (.agg #[.pointer (some ⟨1, 108, none⟩)])) w := by kernel_rfl
theorem AsE.assignable25 (w : World) : (ReflectliteType.relation "AssignableTo" ReflectliteType.assignableTo #[.agg #[.pointer (some ⟨1, 108, none⟩)], .iface 142 (.agg #[.pointer (some ⟨1, 108, none⟩)])]).run Tryd.prog w = .ok (.bool true) w := by kernel_rfl
theorem AsE.valueOf25 (e : Int) (w : World) : (ReflectliteValue.unpack (.iface 108 (.int .i64 e))).run Tryd.prog w
    = .ok (.agg #[.pointer (some ⟨1, 108, none⟩), .pointer (some ⟨w.heap.size, 0, none⟩), .int .u64 130]) (w.alloc (.cells #[.int .i64 e] 108)) := by kernel_rfl

theorem AsE.elemOf27 (w : World) : (Rtype.elem? 126).run Tryd.prog w = .ok (some 108) w := by kernel_rfl
theorem AsE.mk25 (p : Addr) (w : World) : (ReflectliteValue.mk 108 p ReflectliteValue.flagAddr).run Tryd.prog w = .ok (.agg #[.pointer (some ⟨1, 108, none⟩), .pointer (some p), .int .u64 386]) w := by kernel_rfl
/-- (Value).Elem at the Value of a **p.E that is not nil: the Value of the *p.E variable that it points to, addressable. -/
theorem AsE.elemV27 (a p : Addr) (W : World) (ha : W.cell? a = some (.pointer (some p))) :
    (ReflectliteValue.method (ReflectliteValue.valueError "reflectlite.Value.Elem" 0) ReflectliteValue.elem #[.agg #[.pointer (some ⟨1, 126, none⟩), .pointer (some a), .int .u64 150]]).run Tryd.prog W
      = .ok (.agg #[.pointer (some ⟨1, 108, none⟩), .pointer (some p), .int .u64 386]) W := by
  rw [rlm]
  simp only [Sem.run_bind, AsE.parts27, Result.andThen]
  simp [ReflectliteValue.elem, loadVar, isAgg, underlying, Tryd.underlying126, ha, Result.andThen, AsE.elemOf27, AsE.mk25]
theorem rls (v x : Value) : ReflectliteValue.set #[v, x] = (do
    let (some (dst, a, fl), some (src, b, _)) := (← ReflectliteValue.parts v, ← ReflectliteValue.parts x)
      | unsupported (.noEntry "extern/(internal/reflectlite.Value).Set.zeroValue")
    if fl / ReflectliteValue.flagAddr % 2 == 0 then unsupported (.noEntry "extern/(internal/reflectlite.Value).Set.unaddressable")
    let val ← loadVar src b
    if ← Rtype.directlyAssignable dst src then storeVar dst a val
    else if ← Rtype.implements dst src then
      if (← Rtype.kind src) == 20 then
        match val with
        | .nilIface => unsupported (.noEntry "extern/reflectlite: a nil value of one interface type handed on as a value of another")
        | _ => storeVar dst a val
      else storeVar dst a (.iface src val)
    else panicString ("reflectlite.Set: value of type " ++ (← Rtype.spelt src) ++ " is not assignable to type " ++ (← Rtype.spelt dst))
    pure (.tuple #[])) := rfl
theorem AsE.parts25a (a : Addr) (w : World) : (ReflectliteValue.parts (.agg #[.pointer (some ⟨1, 108, none⟩), .pointer (some a), .int .u64 386])).run Tryd.prog w = .ok (some (108, a, 386)) w := by kernel_rfl
theorem AsE.parts25 (a : Addr) (w : World) : (ReflectliteValue.parts (.agg #[.pointer (some ⟨1, 108, none⟩), .pointer (some a), .int .u64 130])).run Tryd.prog w = .ok (some (108, a, 130)) w := by kernel_rfl
theorem AsE.direct25 (w : World) : (Rtype.directlyAssignable 108 108).run Tryd.prog w = .ok true w := by kernel_rfl
theorem AsE.size25 (w : World) : (sizeOf 108).run Tryd.prog w = .ok 1 w := by kernel_rfl
/-- (Value).Set: the *p.E variable at 'ta' gets what the Value's own variable 'b' holds. -/
theorem AsE.set25 (ta b : Addr) (e : Int) (old : Value) (W : World) (hb : W.cell? b = some (.int .i64 e)) (ht : W.cell? ta = some old) (hf : W.frozen? ta = false) :
    (ReflectliteValue.set #[.agg #[.pointer (some ⟨1, 108, none⟩), .pointer (some ta), .int .u64 386], .agg #[.pointer (some ⟨1, 108, none⟩), .pointer (some b), .int .u64 130]]).run Tryd.prog W
      = .ok (.tuple #[]) (W.setCell ta (.int .i64 e)) := by
  rw [rls]
  simp only [Sem.run_bind, AsE.parts25a, AsE.parts25, Result.andThen]
  simp [ReflectliteValue.flagAddr, loadVar, isAgg, underlying, Tryd.underlying108, hb, Result.andThen, AsE.direct25, storeVar, Value.cells, storeCells, Addr.add]
  rw [run_store Tryd.prog W ta _ _ (by rfl)]
  simp [ht, hf]

set_option maxHeartbeats 4000000 in
theorem as_hit (e : Int) (t : Addr) (old : Value) (w : World) (hg : w.cell? ⟨0, 0, none⟩ = some (.iface 142 (.agg #[.pointer (some ⟨1, 29, none⟩)]))) (ht0 : w.cell? t = some old) (hf0 : w.frozen? t = false) :
    Calls Tryd.prog 113 #[.iface 108 (.int .i64 e), .iface 126 (.pointer (some t))] w fun ev w' => ev = .returned (.bool true) ∧ w' = ((((w.alloc (.cells #[.pointer (some t)] 126)).alloc (.cells #[.pointer (some ⟨1, 126, none⟩), .pointer (some ⟨w.heap.size, 0, none⟩), .int .u64 150] 132)).alloc (.cells #[.pointer (some ⟨1, 126, none⟩), .pointer (some ⟨w.heap.size, 0, none⟩), .int .u64 150] 132)).alloc (.cells #[.int .i64 e] 108)).setCell t (.int .i64 e) := by
  have h6 := @run_callFunc_extern Tryd.prog 117 _ (fun args => ReflectliteValue.unpack (args.getD 0 (.tuple #[]))) Tryd.func117 (by kernel_rfl) (by kernel_rfl) (by kernel_rfl) (by kernel_rfl)
  have h7 := @run_callFunc_extern Tryd.prog 118 _ (ReflectliteValue.methodAny (ReflectliteValue.valueError "reflectlite.Value.Type" 0) (fun t _ _ _ => ReflectliteType.toType t)) Tryd.func118 (by kernel_rfl) (by kernel_rfl) (by kernel_rfl) (by kernel_rfl)
  have h8 := @run_callFunc_extern Tryd.prog 119 _ (ReflectliteValue.method (ReflectliteValue.valueError "reflectlite.Value.IsNil" 0) ReflectliteValue.isNil) Tryd.func119 (by kernel_rfl) (by kernel_rfl) (by kernel_rfl) (by kernel_rfl)
  have h27 := @run_callFunc_extern Tryd.prog 138 _ (ReflectliteType.abiMethod fun t => do pure (.int .u8 (← Rtype.kind t))) Tryd.func138 (by kernel_rfl) (by kernel_rfl) (by kernel_rfl) (by kernel_rfl)
  have h37 := @run_callFunc_extern Tryd.prog 148 _ (ReflectliteType.method ReflectliteType.elem) Tryd.func148 (by kernel_rfl) (by kernel_rfl) (by kernel_rfl) (by kernel_rfl)
  have h38 := @run_callFunc_extern Tryd.prog 149 _ (ReflectliteType.relation "Implements" ReflectliteType.implements_) Tryd.func149 (by kernel_rfl) (by kernel_rfl) (by kernel_rfl) (by kernel_rfl)
  have h10 := @run_callFunc_extern Tryd.prog 121 _ ReflectliteType.typeOf Tryd.func121 (by kernel_rfl) (by kernel_rfl) (by kernel_rfl) (by kernel_rfl)
  have h35 := @run_callFunc_extern Tryd.prog 146 _ (ReflectliteType.relation "AssignableTo" ReflectliteType.assignableTo) Tryd.func146 (by kernel_rfl) (by kernel_rfl) (by kernel_rfl) (by kernel_rfl)
  have h11 := @run_callFunc_extern Tryd.prog 122 _ (ReflectliteValue.method (ReflectliteValue.valueError "reflectlite.Value.Elem" 0) ReflectliteValue.elem) Tryd.func122 (by kernel_rfl) (by kernel_rfl) (by kernel_rfl) (by kernel_rfl)
  have h12 := @run_callFunc_extern Tryd.prog 123 _ ReflectliteValue.set Tryd.func123 (by kernel_rfl) (by kernel_rfl) (by kernel_rfl) (by kernel_rfl)
  have tO := AsE.typeOf25
  have mA := AsE.methodAssignableTo
  have a25 := AsE.assignable25
  have v25 := AsE.valueOf25
  have f6 := AsE.valueOf27
  have f7 := AsE.type27
  have mK := AsE.methodKind
  have mE := AsE.methodElem
  have mI := AsE.methodImplements
  have k27 := AsE.kind27
  have k25 := AsE.kind25
  have e27 := AsE.elem27
  have i25 := AsE.implements25
  have n8 := AsE.isNil27 ⟨w.heap.size, 0, none⟩ t ((w.alloc (.cells #[.pointer (some t)] 126)).alloc (.cells #[.pointer (some ⟨1, 126, none⟩), .pointer (some ⟨w.heap.size, 0, none⟩), .int .u64 150] 132)) (by simp)
  have hlt : 0 < w.heap.size := by
    rcases Nat.eq_zero_or_pos w.heap.size with h0 | h
    · simp [World.cell?, h0] at hg
    · exact h
  have hg2 : ((w.alloc (.cells #[.pointer (some t)] 126)).alloc (.cells #[.pointer (some ⟨1, 126, none⟩), .pointer (some ⟨w.heap.size, 0, none⟩), .int .u64 150] 132)).cell? ⟨0, 0, none⟩ = some (.iface 142 (.agg #[.pointer (some ⟨1, 29, none⟩)])) := by
    rw [World.cell?_alloc_lt _ _ ⟨0, 0, none⟩ (by simp), World.cell?_alloc_lt _ _ ⟨0, 0, none⟩ hlt]; exact hg
  have htl : t.block < w.heap.size := by
    rcases Nat.lt_or_ge t.block w.heap.size with h | h
    · exact h
    · simp [World.cell?, Array.getElem?_eq_none h] at ht0
  have el := AsE.elemV27 ⟨w.heap.size, 0, none⟩ t (((w.alloc (.cells #[.pointer (some t)] 126)).alloc (.cells #[.pointer (some ⟨1, 126, none⟩), .pointer (some ⟨w.heap.size, 0, none⟩), .int .u64 150] 132)).alloc (.cells #[.pointer (some ⟨1, 126, none⟩), .pointer (some ⟨w.heap.size, 0, none⟩), .int .u64 150] 132)) (by rw [World.cell?_alloc_lt _ _ ⟨w.heap.size, 0, none⟩ (by simp; omega)]; simp)
  have st := AsE.set25 t ⟨w.heap.size + 1 + 1 + 1, 0, none⟩ e old ((((w.alloc (.cells #[.pointer (some t)] 126)).alloc (.cells #[.pointer (some ⟨1, 126, none⟩), .pointer (some ⟨w.heap.size, 0, none⟩), .int .u64 150] 132)).alloc (.cells #[.pointer (some ⟨1, 126, none⟩), .pointer (some ⟨w.heap.size, 0, none⟩), .int .u64 150] 132)).alloc (.cells #[.int .i64 e] 108))
    (by rw [World.cell?_alloc_at _ _ _ _ (by simp)]; rfl)
    (by rw [World.cell?_alloc_lt _ _ t (by simp; omega), World.cell?_alloc_lt _ _ t (by simp; omega), World.cell?_alloc_lt _ _ t (by simp; omega), World.cell?_alloc_lt _ _ t htl]; exact ht0)
    (by rw [World.frozen?_alloc_old _ _ t (by simp; omega), World.frozen?_alloc_old _ _ t (by simp; omega), World.frozen?_alloc_old _ _ t (by simp; omega), World.frozen?_alloc_old _ _ t (Nat.ne_of_lt htl)]; exact hf0)
  go_enter Tryd.func113, Tryd.ntmps113
  go_wp2
  refine wp_loop_rounds 1 ?_
  rw [rounds_succ]
  go_wp2
  go_ret
  exact ⟨rfl, rfl⟩
end Go.Proofs

namespace Go.Proofs
open Go.Aw Go.RowKit Go.Extern.Stop Go.Stop Go.Extern
theorem hnd_eq : hnd Tryd.prog = .iface 142 (.agg #[.pointer (some ⟨1, 29, none⟩)]) := by kernel_rfl
theorem glob_eq : Tryd.prog.globalNamed "errors.errorType" = some 0 := by kernel_rfl
theorem told_nil (w : World) : Calls Tryd.prog 86 #[.nilIface] w fun e w' => e = .returned (.int .i64 0) ∧ w' = w := by
  go_enter Tryd.func86, Tryd.ntmps86
  go_wp2
  go_ret
  exact ⟨rfl, rfl⟩
set_option maxHeartbeats 4000000 in
theorem told_some (n : Int) (w : World) (hg : w.cell? ⟨0, 0, none⟩ = some (.iface 142 (.agg #[.pointer (some ⟨1, 29, none⟩)]))) : Calls Tryd.prog 86 #[.iface 108 (.int .i64 n)] w fun e w' => e = .returned (.int .i64 n) ∧ Below w.heap.size w w' := by
  have hlt : 0 < w.heap.size := by
    rcases Nat.eq_zero_or_pos w.heap.size with h0 | h
    · simp [World.cell?, h0] at hg
    · exact h
  have hgA : (w.alloc (.cells #[.int .i64 0] 108)).cell? ⟨0, 0, none⟩ = some (.iface 142 (.agg #[.pointer (some ⟨1, 29, none⟩)])) := by
    rw [World.cell?_alloc_lt _ _ ⟨0, 0, none⟩ hlt]; exact hg
  have htA : (w.alloc (.cells #[.int .i64 0] 108)).cell? ⟨w.heap.size, 0, none⟩ = some (.int .i64 0) := by simp
  have hfA : (w.alloc (.cells #[.int .i64 0] 108)).frozen? ⟨w.heap.size, 0, none⟩ = false := by simp
  go_enter Tryd.func86, Tryd.ntmps86
  go_wp2_with (first | (go_at_call 113; refine (as_hit n _ (.int .i64 0) _ hgA htA hfA).mono ?_; rintro e w' ⟨rfl, rfl⟩))
  go_ret
  refine ⟨rfl, ?_⟩
  exact (((((Below.refl _ w).alloc (Nat.le_refl _) _).alloc (by simp) _).alloc (by simp; omega) _).alloc (by simp; omega) _).alloc (by simp; omega) _
theorem told_spec (e : Int) : FnD Tryd.prog 86 [erD e] (I .i64 e) := by
  refine ⟨fun args w => enters_of Tryd.func86 rfl rfl args w, fun w N vs hg hN ha => ?_⟩
  obtain ⟨v, rfl⟩ := List.length_eq_one_iff.1 ha.1
  have hv := ha.2 0 _ v rfl rfl
  have hc := hg 0 glob_eq
  rw [hnd_eq] at hc
  have key : Calls Tryd.prog 86 #[v] w fun ev w' => ev = .returned (.int .i64 e) ∧ Below w.heap.size w w' := by
    by_cases h : e = 0
    · subst h
      cases hv
      exact (told_nil w).mono fun ev w' ⟨h1, h2⟩ => ⟨h1, by rw [h2]; exact Below.refl _ _⟩
    · have hv : RelD w N (.c (.iface 108 (.int .i64 e))) v := by
        have e1 : erD e = .c (.iface 108 (.int .i64 e)) := if_neg h
        rwa [e1] at hv
      cases hv
      exact told_some e w hc
  exact (callsIn_wide.2 key).mono fun ev w' ⟨h1, h2⟩ => ⟨_, _, rfl, h1, h2, .c _⟩
end Go.Proofs

namespace Go.Proofs
open Go.Aw
set_option linter.unusedSimpArgs false
set_option maxRecDepth 10000
theorem told_call (e : Int) (pure : Bool) (σ : St) (dst : Option Tmp) (K : St → Prop) : CallH Tryd.prog 86 [erD e] pure σ dst (.mk : Hid K) = OrH ((pure || D.flat (I .i64 e)) = true ∧ evK (σ.put dst (.d (I .i64 e))) (.mk : Hid K)) (.mk : Hid (CallH Tryd.prog 86 [erD e] pure σ dst (.mk : Hid K))) := CallH.eq0 (told_spec e) pure σ dst K
theorem told_callQ (e : Int) (pure : Bool) (C : V → Prop) : CallQ Tryd.prog 86 [erD e] pure (.mk : Hid C) = OrH ((pure || D.flat (I .i64 e)) = true ∧ evK (V.d (I .i64 e)) (.mk : Hid C)) (.mk : Hid (CallQ Tryd.prog 86 [erD e] pure (.mk : Hid C))) := CallQ.eq0 (told_spec e) pure C
theorem eerr_spec (e n : Int) : FnD Tryd.prog 24 [erD e, I .i64 n] (Bo (decide (e = n))) := by
  refine FnD.go Tryd.func24 rfl rfl Tryd.results24 Tryd.ntmps24 ?_
  simp (implicitDefEqProofs := false) (dsimp := false) only [↓aw_seq, ↓aw_reg, ↓Qseq_n, ↓ops_nil, ↓ops_cons, ↓eval_tmp, ↓eval_bool, ↓eval_func, ↓put_some, ↓op_move, ↓op_assign, ↓op_call, isD_d, ↓fnK_f, ↓call_H, ↓callK_H, ↓allT_nil, ↓allT_cons, ↓td_d, List.getD_cons_zero, List.getD_cons_succ, List.set_cons_zero, List.set_cons_succ, List.cons_append, List.nil_append, List.append_nil, List.map_cons, List.map_nil, List.length_cons, List.length_nil, List.all_cons, List.all_nil, Bool.and_self, Nat.reduceAdd, Nat.reduceSub, Nat.reduceMul, Nat.zero_add, List.replicate, evK_go, reduceIte, Nat.reduceEqDiff, Nat.reduceLT, and_self, Int.zero_add]
  simp (implicitDefEqProofs := false) (dsimp := false) only [told_call, ↓aw_seq, ↓aw_ret, ↓aw_reg, ↓Qseq_n, ↓Qret_r, ↓ops_nil, ↓ops_cons, ↓eval_tmp, ↓put_some, ↓binE_i, ↓bi_eql, ↓op_move, ↓op_assign, ↓op_bin, ↓orH_T, ↓td_d, ↓ret_1, List.getD_cons_zero, List.getD_cons_succ, List.set_cons_zero, List.set_cons_succ, Bool.and_self, Bool.true_or, Nat.reduceAdd, Nat.reduceSub, Nat.reduceMul, evK_go, reduceIte, Nat.reduceEqDiff, Nat.reduceLT, and_self]
theorem eerr_call (e n : Int) (pure : Bool) (σ : St) (dst : Option Tmp) (K : St → Prop) : CallH Tryd.prog 24 [erD e, I .i64 n] pure σ dst (.mk : Hid K) = OrH ((pure || D.flat (Bo (decide (e = n)))) = true ∧ evK (σ.put dst (.d (Bo (decide (e = n))))) (.mk : Hid K)) (.mk : Hid (CallH Tryd.prog 24 [erD e, I .i64 n] pure σ dst (.mk : Hid K))) := CallH.eq0 (eerr_spec e n) pure σ dst K
theorem eerr_callQ (e n : Int) (pure : Bool) (C : V → Prop) : CallQ Tryd.prog 24 [erD e, I .i64 n] pure (.mk : Hid C) = OrH ((pure || D.flat (Bo (decide (e = n)))) = true ∧ evK (V.d (Bo (decide (e = n)))) (.mk : Hid C)) (.mk : Hid (CallQ Tryd.prog 24 [erD e, I .i64 n] pure (.mk : Hid C))) := CallQ.eq0 (eerr_spec e n) pure C
end Go.Proofs

namespace Go.Proofs
open Go.Aw
set_option linter.unusedSimpArgs false
set_option maxRecDepth 10000
theorem hf1_spec  : FnD Tryd.prog 71 [I .i64 3, .l [.s [I .i64 0, I .i64 1], .s [I .i64 1, I .i64 2]]] (.t [.l [I .i64 0, I .i64 1, I .i64 0], erD 0]) := by
  have h := hpart_spec 3 [(0, 1), (1, 2)] (by decide)
  rw [show halfR 3 [(0, 1), (1, 2)] = [0, 1, 0] by decide +kernel, show halfE 3 [(0, 1), (1, 2)] = 0 by decide +kernel] at h
  exact h
theorem hf1_call  (pure : Bool) (σ : St) (dst : Option Tmp) (K : St → Prop) : CallH Tryd.prog 71 [I .i64 3, .l [.s [I .i64 0, I .i64 1], .s [I .i64 1, I .i64 2]]] pure σ dst (.mk : Hid K) = OrH ((pure || D.flat (.t [.l [I .i64 0, I .i64 1, I .i64 0], erD 0])) = true ∧ evK (σ.put dst (.d (.t [.l [I .i64 0, I .i64 1, I .i64 0], erD 0]))) (.mk : Hid K)) (.mk : Hid (CallH Tryd.prog 71 [I .i64 3, .l [.s [I .i64 0, I .i64 1], .s [I .i64 1, I .i64 2]]] pure σ dst (.mk : Hid K))) := CallH.eq0 (hf1_spec ) pure σ dst K
theorem hf1_callQ  (pure : Bool) (C : V → Prop) : CallQ Tryd.prog 71 [I .i64 3, .l [.s [I .i64 0, I .i64 1], .s [I .i64 1, I .i64 2]]] pure (.mk : Hid C) = OrH ((pure || D.flat (.t [.l [I .i64 0, I .i64 1, I .i64 0], erD 0])) = true ∧ evK (V.d (.t [.l [I .i64 0, I .i64 1, I .i64 0], erD 0])) (.mk : Hid C)) (.mk : Hid (CallQ Tryd.prog 71 [I .i64 3, .l [.s [I .i64 0, I .i64 1], .s [I .i64 1, I .i64 2]]] pure (.mk : Hid C))) := CallQ.eq0 (hf1_spec ) pure C
theorem hf2_spec  : FnD Tryd.prog 72 [I .i64 3, .l [.s [I .i64 0, I .i64 1], .s [I .i64 1, I .i64 2], .s [I .i64 2, I .i64 0]]] (.t [I .i64 3, erD 0]) := by
  have h := hodd_spec 3 [(0, 1), (1, 2), (2, 0)] (by decide)
  rw [show oddR 3 [(0, 1), (1, 2), (2, 0)] = 3 by decide +kernel, show chk 3 [(0, 1), (1, 2), (2, 0)] = 0 by decide +kernel] at h
  exact h
theorem hf2_call  (pure : Bool) (σ : St) (dst : Option Tmp) (K : St → Prop) : CallH Tryd.prog 72 [I .i64 3, .l [.s [I .i64 0, I .i64 1], .s [I .i64 1, I .i64 2], .s [I .i64 2, I .i64 0]]] pure σ dst (.mk : Hid K) = OrH ((pure || D.flat (.t [I .i64 3, erD 0])) = true ∧ evK (σ.put dst (.d (.t [I .i64 3, erD 0]))) (.mk : Hid K)) (.mk : Hid (CallH Tryd.prog 72 [I .i64 3, .l [.s [I .i64 0, I .i64 1], .s [I .i64 1, I .i64 2], .s [I .i64 2, I .i64 0]]] pure σ dst (.mk : Hid K))) := CallH.eq0 (hf2_spec ) pure σ dst K
theorem hf2_callQ  (pure : Bool) (C : V → Prop) : CallQ Tryd.prog 72 [I .i64 3, .l [.s [I .i64 0, I .i64 1], .s [I .i64 1, I .i64 2], .s [I .i64 2, I .i64 0]]] pure (.mk : Hid C) = OrH ((pure || D.flat (.t [I .i64 3, erD 0])) = true ∧ evK (V.d (.t [I .i64 3, erD 0])) (.mk : Hid C)) (.mk : Hid (CallQ Tryd.prog 72 [I .i64 3, .l [.s [I .i64 0, I .i64 1], .s [I .i64 1, I .i64 2], .s [I .i64 2, I .i64 0]]] pure (.mk : Hid C))) := CallQ.eq0 (hf2_spec ) pure C
theorem hf3_spec  : FnD Tryd.prog 25 [.l [I .i64 0, I .i64 1, I .i64 0], .l [I .i64 0, I .i64 1, I .i64 0]] (Bo true) := by
  exact ints_spec [0, 1, 0] [0, 1, 0] (by decide)
theorem hf3_call  (pure : Bool) (σ : St) (dst : Option Tmp) (K : St → Prop) : CallH Tryd.prog 25 [.l [I .i64 0, I .i64 1, I .i64 0], .l [I .i64 0, I .i64 1, I .i64 0]] pure σ dst (.mk : Hid K) = OrH ((pure || D.flat (Bo true)) = true ∧ evK (σ.put dst (.d (Bo true))) (.mk : Hid K)) (.mk : Hid (CallH Tryd.prog 25 [.l [I .i64 0, I .i64 1, I .i64 0], .l [I .i64 0, I .i64 1, I .i64 0]] pure σ dst (.mk : Hid K))) := CallH.eq0 (hf3_spec ) pure σ dst K
theorem hf3_callQ  (pure : Bool) (C : V → Prop) : CallQ Tryd.prog 25 [.l [I .i64 0, I .i64 1, I .i64 0], .l [I .i64 0, I .i64 1, I .i64 0]] pure (.mk : Hid C) = OrH ((pure || D.flat (Bo true)) = true ∧ evK (V.d (Bo true)) (.mk : Hid C)) (.mk : Hid (CallQ Tryd.prog 25 [.l [I .i64 0, I .i64 1, I .i64 0], .l [I .i64 0, I .i64 1, I .i64 0]] pure (.mk : Hid C))) := CallQ.eq0 (hf3_spec ) pure C
theorem halvesfact_spec  : FnD Tryd.prog 73 [] (Bo true) := by
  refine FnD.go Tryd.func73 rfl rfl Tryd.results73 Tryd.ntmps73 ?_
  simp (implicitDefEqProofs := false) (dsimp := false) only [↓aw_seq, ↓aw_reg, ↓Qseq_n, ↓ops_nil, ↓ops_cons, ↓eval_tmp, ↓eval_int, ↓eval_bool, ↓eval_func, ↓put_some, ↓dK_d, ↓op_assign, ↓op_build, ↓op_call, isD_d, ↓fnK_f, ↓call_H, ↓callK_H, ↓allT_nil, ↓allT_cons, ↓allD_nil, ↓allD_cons, ↓td_d, ↓cells_c, ↓cells_s, ↓one_i, ↓bs_, ↓op_bs, ↓bsL_f, ↓stored_mk, ↓sl_nil, ↓sl_cons, ↓sT_move, ↓sT_assign, ↓sT_extract, ↓sT_build, ↓sT_bs, ↓sT_call, ↓vsz_agg, ↓inO_2, ↓fm_nil, ↓fm_cons, ↓sl22, ↓ty41, ↓zb41, ↓bd41, List.getD_cons_zero, List.getD_cons_succ, List.set_cons_zero, List.set_cons_succ, List.cons_append, List.nil_append, List.append_nil, List.map_cons, List.map_nil, List.length_cons, List.length_nil, List.all_cons, List.all_nil, Bool.true_and, Bool.and_self, Bool.or_false, Nat.reduceAdd, Nat.reduceSub, Nat.reduceMul, Nat.zero_add, List.replicate, evK_go, reduceIte, Nat.reduceEqDiff, Nat.reduceLT, and_self, true_and, Int.zero_add]
  simp (implicitDefEqProofs := false) (dsimp := false) only [hf1_call, hf2_call, hf3_call, eval_nilI, ↓er_eql, ↓cdK_true, ↓gdK_t, ↓gval_mk, ↓gvL_zero, ↓gvL_succ, ↓nthK_H, ↓nthH_zero, ↓nthH_succ, ↓aw_seq, ↓aw_ret, ↓aw_reg, ↓Qseq_n, ↓Qret_r, ↓ops_nil, ↓ops_cons, ↓ops_guard, ↓eval_tmp, ↓eval_int, ↓eval_func, ↓put_some, ↓bK_b, ↓dK_d, ↓tK_t, ↓binE_i, ↓bi_eql, ↓op_move, ↓op_assign, ↓op_pick, ↓op_bin, ↓op_extract, ↓op_build, ↓op_call, ↓orH_T, isD_d, ↓fnK_f, ↓call_H, ↓callK_H, ↓allT_nil, ↓allT_cons, ↓allD_nil, ↓allD_cons, ↓td_d, ↓ret_1, ↓st_tm, ↓cells_c, ↓cells_s, ↓one_i, ↓bs_, ↓op_bs, ↓bsL_f, ↓stored_mk, ↓sl_nil, ↓sl_cons, ↓sT_move, ↓sT_assign, ↓sT_pick, ↓sT_bin, ↓sT_extract, ↓sT_build, ↓sT_bs, ↓sT_call, ↓vsz_int, ↓vsz_agg, ↓inO_3, ↓fm_nil, ↓fm_cons, ↓ty3, ↓zb3, ↓sl22, ↓sl24, ↓ty41, ↓zb41, ↓bd41, List.getD_cons_zero, List.getD_cons_succ, List.set_cons_zero, List.set_cons_succ, List.cons_append, List.nil_append, List.append_nil, List.map_cons, List.map_nil, List.length_cons, List.length_nil, List.all_cons, List.all_nil, Bool.and_true, Bool.true_and, Bool.and_self, Bool.true_or, Bool.or_false, Nat.reduceAdd, Nat.reduceSub, Nat.reduceMul, Nat.zero_add, evK_go, reduceIte, decide_true, Nat.reduceEqDiff, Nat.reduceLT, and_self, true_and, and_true, Int.zero_add]
  (repeat (first | refine OrH.l ?_ | refine ⟨⟨rfl, by decide⟩, ?_⟩ | refine ⟨by decide, ?_⟩ | refine ⟨by omega, ?_⟩ | exact ⟨rfl, by decide⟩ | decide))
theorem halvesfact_call  (pure : Bool) (σ : St) (dst : Option Tmp) (K : St → Prop) : CallH Tryd.prog 73 [] pure σ dst (.mk : Hid K) = OrH ((pure || D.flat (Bo true)) = true ∧ evK (σ.put dst (.d (Bo true))) (.mk : Hid K)) (.mk : Hid (CallH Tryd.prog 73 [] pure σ dst (.mk : Hid K))) := CallH.eq0 (halvesfact_spec ) pure σ dst K
theorem halvesfact_callQ  (pure : Bool) (C : V → Prop) : CallQ Tryd.prog 73 [] pure (.mk : Hid C) = OrH ((pure || D.flat (Bo true)) = true ∧ evK (V.d (Bo true)) (.mk : Hid C)) (.mk : Hid (CallQ Tryd.prog 73 [] pure (.mk : Hid C))) := CallQ.eq0 (halvesfact_spec ) pure C
end Go.Proofs

namespace Go.Proofs
open Go.Aw Go.ChangeShapes Go.WideShapes Go.ChangeAt Go.RowKit Go.Deep
set_option linter.unusedVariables false
set_option maxRecDepth 100000
theorem tkids : Kids Tryd.prog (· < Tryd.prog.types.size) := kids_rows (by kernel_rfl) (by kernel_rfl)
theorem tfull : ∀ t e, t < Tryd.prog.types.size → Tryd.prog.underlying t = some (.slice e) → 0 < Tryd.prog.cellsOf e := slices_full_of _ (by kernel_rfl)
theorem tu3 : Tryd.prog.underlying 3 = some (.int .i64) := by kernel_rfl
theorem tu4 : Tryd.prog.underlying 4 = some .bool := by kernel_rfl
theorem tu22 : Tryd.prog.underlying 22 = some (.slice 41) := by kernel_rfl
theorem tc35 : Tryd.prog.cellsOf 41 = 2 := by kernel_rfl
theorem tc3 : Tryd.prog.cellsOf 3 = 1 := by kernel_rfl
theorem tb35 : Tryd.prog.bytesOf 41 = 16 := by kernel_rfl
section
variable {H : Type} {enc : TypeId × Value → H} {P : Program} {w w' : World} {base : Nat} {spare : Nat → Bool} {held : Bool}
theorem trodAll_later : ∀ {ts : List TypeId} {vs : List Value} {ds : List (DataW H)} {ps : List MemPlace}, DataW.TrodAll enc P w base spare held ts vs ds ps → (∀ p ∈ ps, w.sameAt w' p) → DataW.TrodAll enc P w' base spare held ts vs ds ps
  | [], [], [], _, h, _ => h
  | _ :: _, _ :: _, _ :: _, _, ⟨p, q, ⟨n, h1⟩, h2, e⟩, hs => ⟨p, q, ⟨n, DataW.trod_carry n _ _ _ h1 (fun x hx => hs x (by rw [e]; exact List.mem_append_left _ hx))⟩, trodAll_later h2 (fun x hx => hs x (by rw [e]; exact List.mem_append_right _ hx)), e⟩
end
/-- A law's end: true, and all as it was. -/
theorem law_post {H : Type} {enc : TypeId × Value → H} {fn : Func} {s : ChangeSpec} {W W' : World} {args : Array Value} {ds gs : List (DataW H)} {before : List MemPlace} (hv : s.vars = []) (hrt : fn.resultTypes = #[4])
    (hpt : ∀ t ∈ fn.params.toList, t < Tryd.prog.types.size) (hW : DataW.Whole enc Tryd.prog fn.params.toList s.vars false W args.toList ds gs before)
    (hs : (s.fn H (ds ++ gs)).results = [.lit (.bool true)] ∧ (s.fn H (ds ++ gs)).args = ds ∧ (s.fn H (ds ++ gs)).vars = []) (hB : Below W.heap.size W W') : s.post enc Tryd.prog fn false true false false W args (.bool true) W' := by
  have hW' := hW
  obtain ⟨p, q, hA, hV, rfl, hfz, hnd⟩ := hW
  have hlt := hW'.lt
  rw [hv] at hV
  obtain ⟨rfl, rfl⟩ := trodVars_none hV
  obtain ⟨h1, h2, h3⟩ := hs
  refine ⟨ds, [], p ++ [], [], p, [], hW', ?_, ?_, ?_, hB.frame _, fun h => by cases h⟩
  · rw [h1, hrt]
    exact trodAll_mk1 (shut_bool tu4 true)
  · rw [h2]
    refine DataW.TrodAll.respare tkids tfull hpt (trodAll_later hA fun x hx => hB.same (hlt x (List.mem_append_left _ hx))) fun x hx => ?_
    simpa using hlt x (List.mem_append_left _ hx)
  · rw [h3, hv]; rfl
/-- What lies there already. -/
abbrev Old (W : World) (b : Nat) : Prop := b < W.heap.size
section
variable {H : Type} {enc : TypeId × Value → H} {W : World} {held : Bool}
theorem arg_int {v : Value} {d : DataW H} {p : List MemPlace} {r : Reach} {b0 : Nat} (hval : Value.okWide Tryd.prog W r b0 3 v) (h : DataW.Trod enc Tryd.prog W 0 (fun _ => true) held 3 v d p) : ∃ n : Int, RelD W (Old W) (I .i64 n) v ∧ (-9223372036854775808 ≤ n ∧ n ≤ 9223372036854775807) := by
  obtain ⟨n, rfl, _, _, hw⟩ := open_int tu3 hval h
  exact ⟨n, .c _, by simpa [Lit.wf, IntKind.min, IntKind.max, IntKind.signed, IntKind.bits] using hw⟩
theorem arg_lines {v : Value} {d : DataW H} {p : List MemPlace} {r : Reach} {b0 : Nat} (hval : Value.okWide Tryd.prog W r b0 22 v) (h : DataW.Trod enc Tryd.prog W 0 (fun _ => true) held 22 v d p) :
    ∃ l : List (Int × Int), RelD W (Old W) (.l (l.map lnD)) v ∧ ((d = .nil ∧ l = []) ∨ ∃ elems spare, d = .slice elems spare ∧ elems.length = l.length) := by
  obtain ⟨a0, len, cap, rfl⟩ := okWide_slice tu22 hval
  obtain ⟨fuel, hf⟩ := h
  rcases open_slice_pairs tu22 Tryd.underlying41 tc35 rfl rfl tc3 tc3 hf with ⟨hcs, hx⟩ | ⟨a, len', cap', m, n, V0, V1, D0, D1, P0, P1, hcs, _, hl, hm, hmm, hx, hc⟩
  · simp [Value.cells] at hcs
    obtain ⟨rfl, rfl, rfl⟩ := hcs
    simp (implicitDefEqProofs := false) (dsimp := false) only [Prod.mk.injEq] at hx
    exact ⟨[], .nl none 0, .inl ⟨hx.1, rfl⟩⟩
  · simp [Value.cells] at hcs
    obtain ⟨rfl, rfl, rfl⟩ := hcs
    simp (implicitDefEqProofs := false) (dsimp := false) only [Prod.mk.injEq] at hx
    simp (implicitDefEqProofs := false) (dsimp := false) only [if_true] at hmm
    subst hmm
    have hint : ∀ i, ∃ q : Int × Int, i < len → W.cell? (a.add (i * 2)) = some (.int .i64 q.1) ∧ W.cell? (a.add (i * 2 + 1)) = some (.int .i64 q.2) := by
      intro i
      by_cases hi : i < len
      · obtain ⟨h1, h2, h3, h4⟩ := hc i (by omega)
        obtain ⟨x, e1, _, _⟩ := DataW.trod_int tu3 h3
        obtain ⟨y, e2, _, _⟩ := DataW.trod_int tu3 h4
        simp (implicitDefEqProofs := false) (dsimp := false) only [List.cons.injEq, and_true] at e1 e2
        exact ⟨(x, y), fun _ => ⟨by rw [h1, e1], by rw [h2, e2]⟩⟩
      · exact ⟨(0, 0), fun h => absurd h hi⟩
    obtain ⟨Q, hQ⟩ : ∃ Q : Nat → Int × Int, ∀ i, i < len → W.cell? (a.add (i * 2)) = some (.int .i64 (Q i).1) ∧ W.cell? (a.add (i * 2 + 1)) = some (.int .i64 (Q i).2) := ⟨fun i => Classical.choose (hint i), fun i => Classical.choose_spec (hint i)⟩
    refine ⟨(List.range len).map Q, ?_, .inr ⟨_, _, hx.1, by simp⟩⟩
    by_cases h0 : len = 0
    · subst h0; exact .nl _ _
    have hxs : ∀ (i : Nat) (x : D), (((List.range len).map Q).map lnD)[i]? = some x → i < len ∧ x = lnD (Q i) := by
      intro i x hx
      rw [List.getElem?_map, List.getElem?_map] at hx
      by_cases hi : i < len
      · rw [List.getElem?_range hi] at hx
        simp at hx
        exact ⟨hi, hx.symm⟩
      · rw [List.getElem?_eq_none (by simp; omega)] at hx; cases hx
    have hlen : len = (((List.range len).map Q).map lnD).length := by simp
    have hrel := RelD.l (w := W) (N := Old W) (((List.range len).map Q).map lnD) a _ 2 (fun i k => if k = 0 then .int .i64 (Q i).1 else .int .i64 (Q i).2) (by rw [← hlen]; exact hl) ?_ ?_ ?_ ?_
    · rw [← hlen] at hrel
      exact hrel
    · have := (hQ 0 (by omega)).1
      unfold World.cell? at this
      split at this
      · rename_i C et fr hb
        have hb' := (Array.getElem?_eq_some_iff.1 hb).1
        rw [add_block] at hb'
        exact hb'
      · cases this
    · intro i x hx
      obtain ⟨_, rfl⟩ := hxs i x hx
      rfl
    · intro i k x y hx hy
      obtain ⟨hi, rfl⟩ := hxs i x hx
      match k, hy with
      | 0, hy => exact (hQ i hi).1
      | 1, hy => exact (hQ i hi).2
    · intro i k x y hx hy
      obtain ⟨hi, rfl⟩ := hxs i x hx
      match k, hy with
      | 0, hy => cases hy; exact .c _
      | 1, hy => cases hy; exact .c _
theorem arg_line {v : Value} {d : DataW H} {p : List MemPlace} {r : Reach} {b0 : Nat} (hval : Value.okWide Tryd.prog W r b0 41 v) (h : DataW.Trod enc Tryd.prog W 0 (fun _ => true) held 41 v d p) :
    ∃ q : Int × Int, RelD W (Old W) (lnD q) v ∧ True := by
  obtain ⟨v0, v1, y0, y1, n, rfl, _, _, h3, h4⟩ := Joins.open_agg2 Tryd.underlying41 (by kernel_rfl) tc35 hval h
  obtain ⟨x, e1, _, _⟩ := DataW.trod_int tu3 h3
  obtain ⟨y, e2, _, _⟩ := DataW.trod_int tu3 h4
  simp (implicitDefEqProofs := false) (dsimp := false) only [List.cons.injEq, and_true] at e1 e2
  subst e1
  subst e2
  refine ⟨(x, y), ?_, trivial⟩
  refine RelD.s _ _ (by rfl) fun k z u hz hu => ?_
  match k, hz, hu with
  | 0, hz, hu => cases hz; cases hu; exact .c _
  | 1, hz, hu => cases hz; cases hu; exact .c _
theorem lines_len {ts : List TypeId} {ds : List (DataW H)} {j : Nat} {l : List (Int × Int)} (h : (DataW.weightsEach Tryd.prog ts ds).all (· ≤ reachBytes) = true) (ht : ts[j]? = some 22) {d : DataW H} (hd : ds[j]? = some d)
    (hl : (d = .nil ∧ l = []) ∨ ∃ elems spare, d = .slice elems spare ∧ elems.length = l.length) : l.length < 2 ^ 43 := by
  rcases hl with ⟨_, rfl⟩ | ⟨elems, spare, rfl, e⟩
  · simp
  · have := sized_slice h ht hd tu22
    rw [tb35] at this
    have := reachBytes_lt
    omega
end
theorem argsOK_nil (w : World) (N : Nat → Prop) : ArgsOK w N [] [] := ⟨rfl, fun k d v h => by simp at h⟩
theorem argsOK_cons {w : World} {N : Nat → Prop} {d : D} {ds : List D} {v : Value} {vs : List Value} (h : RelD w N d v) (hs : ArgsOK w N ds vs) : ArgsOK w N (d :: ds) (v :: vs) :=
  ⟨by simp [hs.1], fun k d' v' hd hv => by
    cases k with
    | zero => simp at hd hv; subst hd; subst hv; exact h
    | succ k => exact hs.2 k d' v' (by simpa using hd) (by simpa using hv)⟩
theorem Tryd.et : Tryd.prog.globalNamed "errors.errorType" = some 0 := by kernel_rfl
theorem Tryd.rt : (Tryd.prog.cutTypes.find? (·.1 == "internal/reflectlite.rtype")).map (·.2) = some 142 := by kernel_rfl
theorem Tryd.oneRow : ((List.range 184).filter fun t => Tryd.prog.rowNamed t [101, 114, 114, 111, 114]) = [29] := by kernel_rfl
theorem Tryd.tsize : Tryd.prog.types.size = 184 := by kernel_rfl
theorem hnd_at : hnd Tryd.prog = .iface (142) (.agg #[.pointer (some ⟨1, 29, none⟩)]) := by kernel_rfl
/-- The listed variable's one cell. -/
theorem gl_of_laid {W : World} (h : laidMetH Tryd.prog [("errors.errorType", .iface "internal/reflectlite.rtype" (.agg [.ptr (.lit (.string [101, 114, 114, 111, 114]))]))] W) : Gl Tryd.prog W := fun g hg => by
  obtain rfl := Option.some.inj (Tryd.et.symm.trans hg)
  rw [hnd_at]
  have h' : laidMet Tryd.prog [] W ∧ handlesMet Tryd.prog [("errors.errorType", .iface "internal/reflectlite.rtype" (.agg [.ptr (.lit (.string [101, 114, 114, 111, 114]))]))] W := h
  obtain ⟨name, u, ty, e1, e2, e3, e4, e5⟩ := h'.2 _ (List.mem_singleton.2 rfl)
  have en : name = [101, 114, 114, 111, 114] := (Option.some.inj e1).symm
  subst en
  obtain rfl := Option.some.inj (Tryd.rt.symm.trans e2)
  have hm : ty ∈ (List.range 184).filter fun t => Tryd.prog.rowNamed t [101, 114, 114, 111, 114] := List.mem_filter.2 ⟨List.mem_range.2 (by rw [← Tryd.tsize]; exact e3), e4⟩
  rw [Tryd.oneRow] at hm
  obtain rfl := List.mem_singleton.1 hm
  have hh : typeHandle Tryd.prog (29) = .pointer (some ⟨1, 29, none⟩) := by kernel_rfl
  rw [hh] at e5
  simpa using World.var?_cell Tryd.et e5 0
/-- A law's call. -/
theorem law_calls {f : FuncId} {ds : List D} (h : FnD Tryd.prog f ds (Bo true)) (W : World) (hg : Gl Tryd.prog W) (vs : List Value) (ha : ArgsOK W (Old W) ds vs) : Calls Tryd.prog f vs.toArray W fun e W' => e = .returned (.bool true) ∧ Below W.heap.size W W' := by
  have := callsIn_wide.1 (h.2 W (Old W) vs hg (fun b h => h) ha)
  refine this.mono fun e W' ⟨r, v, hr, he, hB, hres⟩ => ?_
  subst hr
  have hv : v = .bool true := relD_c hres
  exact ⟨by rw [he, hv], hB⟩
end Go.Proofs

namespace Go.Proofs
open Go.Aw
set_option linter.unusedSimpArgs false
set_option maxRecDepth 10000
theorem lHalvesKonig_spec (n : Int) (l : List (Int × Int)) (hn : -9223372036854775808 ≤ n ∧ n ≤ 9223372036854775807) (hl : l.length < 2 ^ 43) : FnD Tryd.prog 18 [I .i64 n, .l (l.map lnD)] (Bo true) := by
  have hl62 : l.length < 2 ^ 62 := by omega
  refine FnD.go Tryd.func18 rfl rfl Tryd.results18 Tryd.ntmps18 ?_
  simp (implicitDefEqProofs := false) (dsimp := false) only [↓aw_seq, ↓aw_reg, ↓Qseq_n, ↓ops_nil, ↓ops_cons, ↓eval_bool, ↓eval_func, ↓put_some, ↓op_assign, ↓op_call, isD_d, ↓fnK_f, ↓call_H, ↓callK_H, ↓allT_nil, ↓td_d, List.set_cons_zero, List.set_cons_succ, List.cons_append, List.nil_append, List.append_nil, List.map_cons, List.map_nil, List.length_cons, List.length_nil, List.all_nil, Bool.and_self, Nat.reduceAdd, Nat.reduceSub, Nat.reduceMul, Nat.zero_add, List.replicate, evK_go, reduceIte, Nat.reduceEqDiff, Nat.reduceLT, and_self, Int.zero_add]
  simp (implicitDefEqProofs := false) (dsimp := false) only [halvesfact_call, hodd_call, hpart_call, hl62, eval_nilI, ↓er_neq, ↓cdK_false, ↓cdK_not, ↓nthK_H, ↓nthH_zero, ↓nthH_succ, ↓aw_cond, ↓aw_seq, ↓aw_skip, ↓aw_reg, ↓Qseq_n, ↓ops_nil, ↓ops_cons, ↓eval_tmp, ↓eval_func, ↓put_some, ↓bK_b, ↓tK_t, ↓op_move, ↓op_assign, ↓op_bin, ↓op_not, ↓op_extract, ↓op_call, isD_d, ↓fnK_f, ↓call_H, ↓callK_H, ↓allT_nil, ↓allT_cons, ↓td_d, List.getD_cons_zero, List.getD_cons_succ, List.set_cons_zero, List.set_cons_succ, List.append_nil, List.all_cons, List.all_nil, Bool.true_and, Bool.and_self, Bool.true_or, Nat.reduceAdd, Nat.reduceSub, Nat.reduceMul, evK_go, reduceIte, Bool.not_true, Nat.reduceEqDiff, Nat.reduceLT, and_self, true_and]
  (repeat refine OrH.l ?_)
  refine cdK_dec (fun hc => ?_) (fun hc => ?_)
  rotate_left
  · have e1 : oddR n l = 0 := if_neg hc
    have e2 : halfR n l = [] := if_neg hc
    have e3 : ¬ halfE n l = 0 := by unfold halfE; rw [if_neg hc]; exact hc
    simp (implicitDefEqProofs := false) (dsimp := false) only [e1, e2, e3, eval_nilI, ↓er_neq, ↓cdK_true, ↓gdK_t, ↓gval_mk, ↓gvL_zero, ↓gvL_succ, ↓aw_seq, ↓aw_ret, ↓aw_reg, ↓Qseq_n, ↓Qseq_r, ↓Qret_r, ↓ops_nil, ↓ops_cons, ↓ops_guard, ↓eval_tmp, ↓eval_int, ↓put_some, ↓bK_b, ↓lenK_l, ↓binE_i, ↓bi_eql, ↓op_move, ↓op_assign, ↓op_pick, ↓op_bin, ↓op_len, ↓td_d, ↓ret_1, ↓st_tm, ↓sl24, List.getD_cons_zero, List.getD_cons_succ, List.set_cons_zero, List.set_cons_succ, List.map_nil, List.length_nil, Nat.reduceAdd, Nat.reduceSub, Nat.reduceMul, evK_go, reduceIte, decide_true, decide_false, Bool.not_false, Nat.reduceEqDiff, Nat.reduceLT, Int.cast_ofNat_Int]
    skip
  have ok := chk_ok hc
  have hcr := ok.cr
  have h8 := ok.hi
  have h1 := ok.lo
  have e0 := ok.n0
  have hh := odd_half hcr.1 hcr.2.2
  have hs := oddN_spec n.toNat (outS n.toNat (symL (natL l)))
  have e1 : oddR n l = oddN n.toNat (outS n.toNat (symL (natL l))) := if_pos hc
  have e2 : halfR n l = if halfOk n.toNat (natL l) = true then halfL n.toNat (natL l) else [] := if_pos hc
  have e3 : halfE n l = if halfOk n.toNat (natL l) = true then 0 else 5 := if_pos hc
  rw [lnD_nat ok.rng, hc]
  rw [e1]
  clear e1 hc ok
  generalize n.toNat = m at *
  subst e0
  generalize natL l = L at *
  generalize oddN m (outS m (symL L)) = z at *
  cases hok : halfOk m L with
  | false =>
    have hz : z ≠ 0 := fun e => by rw [hh.1 e] at hok; cases hok
    obtain ⟨z1, z2⟩ := hs.2 hz
    rw [if_neg (by rw [hok]; decide)] at e2 e3
    rw [e2, e3]
    have hz' : decide ((z : Int) = 0) = false := decide_eq_false (by omega)
    have hz2 : decide (z = 0) = false := decide_eq_false hz
    have h50 : decide ((5 : Int) = 0) = false := by decide
    simp (implicitDefEqProofs := false) (dsimp := false) only [hz', h50, beq_self_eq_true, eval_nilI, ↓er_eql, ↓bo_neq, ↓cdK_false, ↓gdK_t, ↓gdK_f, ↓gval_mk, ↓gvL_zero, ↓gvL_succ, ↓aw_seq, ↓aw_skip, ↓aw_reg, ↓Qseq_n, ↓ops_cons, ↓ops_guard, ↓eval_tmp, ↓eval_int, ↓put_some, ↓binE_i, ↓bi_rem, ↓bi_eql, ↓op_move, ↓op_bin, ↓st_tm, List.getD_cons_zero, List.getD_cons_succ, List.set_cons_zero, List.set_cons_succ, List.map_nil, Bool.true_and, Nat.reduceAdd, Nat.reduceSub, Nat.reduceMul, evK_go, reduceIte, decide_true, Bool.not_true, Nat.reduceEqDiff, Nat.reduceLT, true_and, Int.natCast_nonneg]
    refine ⟨by decide, ?_⟩
    have hz3 : decide ((z : Int) % 2 = 0) = false := decide_eq_false (by omega)
    have hz4 : decide ((m : Int) < (z : Int)) = false := decide_eq_false (by omega)
    have hz5 : decide (m < z) = false := decide_eq_false (by omega)
    simp (implicitDefEqProofs := false) (dsimp := false) only [hz3, hz5, eval_nilI, ↓er_neq, ↓cdK_false, ↓cdK_not, ↓gdK_t, ↓gdK_f, ↓gval_mk, ↓gvL_zero, ↓gvL_succ, ↓aw_cond, ↓aw_seq, ↓aw_skip, ↓aw_reg, ↓Qseq_n, ↓ops_nil, ↓ops_cons, ↓ops_guard, ↓eval_tmp, ↓eval_bool, ↓put_some, ↓bK_b, ↓binE_i, ↓bi_gtr, ↓op_move, ↓op_pick, ↓op_bin, ↓st_tm, List.getD_cons_zero, List.getD_cons_succ, List.set_cons_zero, List.set_cons_succ, Nat.reduceAdd, Nat.reduceSub, Nat.reduceMul, evK_go, reduceIte, Nat.reduceEqDiff, Nat.reduceLT, Int.ofNat_lt]
    simp (implicitDefEqProofs := false) (dsimp := false) only [h50, eerr_call, ↓cdK_false, ↓aw_seq, ↓aw_ret, ↓aw_reg, ↓Qseq_n, ↓Qseq_r, ↓Qret_r, ↓ops_nil, ↓ops_cons, ↓eval_tmp, ↓eval_int, ↓eval_func, ↓put_some, ↓op_move, ↓op_assign, ↓op_call, ↓orH_T, isD_d, ↓fnK_f, ↓call_H, ↓callK_H, ↓allT_nil, ↓allT_cons, ↓td_d, ↓ret_1, List.getD_cons_zero, List.getD_cons_succ, List.set_cons_zero, List.set_cons_succ, List.append_nil, List.all_cons, List.all_nil, Bool.and_self, Bool.true_or, Nat.reduceAdd, Nat.reduceSub, Nat.reduceMul, evK_go, reduceIte, decide_true, Bool.not_false, Nat.reduceEqDiff, Nat.reduceLT, and_self]
    skip
  | true =>
    have hz : z = 0 := hh.2 hok
    subst hz
    rw [if_pos hok] at e2 e3
    rw [e2, e3]
    simp (implicitDefEqProofs := false) (dsimp := false) only [beq_self_eq_true, eval_nilI, ↓er_eql, ↓bo_neq, ↓cdK_false, ↓gdK_t, ↓gdK_f, ↓gval_mk, ↓gvL_zero, ↓gvL_succ, ↓aw_seq, ↓aw_skip, ↓aw_reg, ↓Qseq_n, ↓ops_cons, ↓ops_guard, ↓eval_tmp, ↓eval_int, ↓put_some, ↓binE_i, ↓bi_rem, ↓bi_eql, ↓op_move, ↓op_bin, ↓st_tm, List.getD_cons_zero, List.getD_cons_succ, List.set_cons_zero, List.set_cons_succ, Nat.reduceAdd, Nat.reduceSub, Nat.reduceMul, evK_go, reduceIte, decide_true, Bool.not_true, Nat.reduceEqDiff, Nat.reduceLT, Int.cast_ofNat_Int]
    refine ⟨by decide, ?_⟩
    have hz3 : decide ((0 : Int) % 2 = 0) = true := by decide
    have hz4 : decide ((m : Int) < (0 : Int)) = false := decide_eq_false (by omega)
    have hLl : (halfL m L).length = m := by simp [halfL]
    have hLa : (halfL m L).all (fun x => inB x 0 1) = true := by
      rw [List.all_eq_true]
      intro x hx
      obtain ⟨i, hi, rfl⟩ := List.mem_iff_getElem.1 hx
      obtain ⟨k, hk, _⟩ := half_get hcr.1 hcr.2.2 (i := i) (by omega)
      rw [List.getD_eq_getElem?_getD, List.getElem?_eq_getElem hi, Option.getD_some] at hk
      rw [hk]
      simp [inB]; omega
    have hL62 : (halfL m L).length < 2 ^ 62 := by omega
    simp (implicitDefEqProofs := false) (dsimp := false) only [hz3, hz4, hLl, allR_call, hLa, eval_nilI, ↓er_neq, ↓cdK_true, ↓cdK_false, ↓gdK_t, ↓gdK_f, ↓gval_mk, ↓gvL_zero, ↓gvL_succ, ↓aw_cond, ↓aw_seq, ↓aw_block, ↓aw_skip, ↓aw_loop, ↓aw_reg, ↓Qseq_n, ↓ops_nil, ↓ops_cons, ↓ops_guard, ↓eval_tmp, ↓eval_int, ↓eval_func, ↓put_some, ↓bK_b, ↓lenK_l, ↓binE_i, ↓bi_neq, ↓bi_gtr, ↓op_move, ↓op_assign, ↓op_pick, ↓op_bin, ↓op_not, ↓op_len, ↓op_call, isD_d, ↓fnK_f, ↓call_H, ↓callK_H, ↓allT_nil, ↓allT_cons, ↓td_d, ↓st_tm, ↓sl24, List.getD_cons_zero, List.getD_cons_succ, List.set_cons_zero, List.set_cons_succ, List.append_nil, List.length_map, List.all_cons, List.all_nil, Bool.true_and, Bool.and_self, Bool.true_or, Nat.reduceAdd, Nat.reduceSub, Nat.reduceMul, evK_go, reduceIte, decide_true, Bool.not_true, Nat.reduceEqDiff, Nat.reduceLT, and_self, true_and]
    (repeat refine OrH.l ?_)
    refine ⟨by omega, ?_⟩
    have hpart := fun a b => half_part hok (a := a) (b := b)
    have hg := hcr.2.2
    have hlen := natL_len l
    generalize halfL m L = p at *
    refine loopW (fun k : Nat => { tm := slots 94 [(0, .d (I .i64 (m : Int))), (1, .d (.l (L.map lnN))), (8, .d (.l (p.map (I .i64)))), (10, .d (I .i64 k))], bx := [], rw := [] })
      (fun k => k ≤ L.length) (fun k => L.length - k) 0 (by simp) ?_ ?_
    · refine Wkn.of [] [] ?_; simp (implicitDefEqProofs := false) (dsimp := false) only [List.set_cons_zero, List.set_cons_succ, Bool.and_self, Nat.reduceAdd, Nat.reduceSub, Nat.reduceMul, List.replicate, evK_go, reduceIte, Nat.reduceEqDiff, Nat.reduceLT, and_self, List.foldl_cons, List.foldl_nil, Int.cast_ofNat_Int, slots, wkL_nil, wkL_cons, wkB_nil, wkR_nil, wkV_j, wkV_d, frz_d, reduceCtorEq]
    · intro k hk
      simp (implicitDefEqProofs := false) (dsimp := false) only [slots, ↓aw_cond, ↓aw_seq, ↓aw_reg, ↓Qseq_n, ↓ops_nil, ↓ops_cons, ↓eval_tmp, ↓put_some, ↓bK_b, ↓lenK_l, ↓binE_i, ↓bi_lss, ↓op_move, ↓op_bin, ↓op_len, ↓sl22, List.getD_cons_zero, List.getD_cons_succ, List.set_cons_zero, List.set_cons_succ, List.length_map, Nat.reduceAdd, Nat.reduceSub, Nat.reduceMul, List.replicate, evK_go, reduceIte, Nat.reduceEqDiff, Nat.reduceLT, List.foldl_cons, List.foldl_nil, Int.ofNat_lt]
      refine cdK_dec (fun h => ?_) (fun h => ?_)
      · have hkL : k < L.length := by omega
        have hmem := getD_mem hkL
        generalize hab : L.getD k default = q at hmem
        obtain ⟨a, b⟩ := q
        obtain ⟨ha, hb⟩ := hg _ hmem
        simp only at ha hb
        have hap : a < p.length := by omega
        have hbp : b < p.length := by omega
        have hne : decide (p.getD a default = p.getD b default) = false := decide_eq_false (hpart a b hmem)
        simp (implicitDefEqProofs := false) (dsimp := false) only [hkL, hab, lnN, hap, hbp, ↓atK_H, ↓atH_map, ↓aw_cond, ↓aw_seq, ↓aw_block, ↓aw_skip, ↓aw_draw, ↓Qseq_n, ↓eval_tmp, ↓put_some, ↓bK_b, ↓iK_i, ↓ev_move, ↓ev_load, ↓ev_bin, ↓ev_fa, ↓ev_ia, ↓binE_i, ↓bi_eql, ↓ldK_q, ↓faK_q, ↓iaK_l, ↓draw_H, ↓h_nil, ↓h_cons, ↓ldH_n, ↓q_move, ↓q_load, ↓q_bin, ↓q_fa, ↓q_ia, ↓il_move, ↓il_load, ↓il_bin, ↓il_fa, ↓il_ia, ↓cells_c, ↓cells_s, ↓hd_cons, ↓ty3, ↓sl22, ↓sl24, ↓ty41, ↓fd41_0, ↓fd41_1, List.getD_cons_zero, List.getD_cons_succ, List.set_cons_zero, List.set_cons_succ, List.length_cons, List.length_nil, Bool.true_and, Nat.reduceAdd, Nat.reduceSub, Nat.reduceMul, Nat.zero_add, Int.toNat_natCast, evK_go, reduceIte, decide_true, Nat.reduceEqDiff, Nat.reduceLT, true_and, Int.zero_add, List.drop_zero, List.drop_succ_cons, Int.natCast_nonneg]
        refine OrH.l ⟨DrawH.of follows_mixed (by kernel_rfl), ?_⟩
        simp (implicitDefEqProofs := false) (dsimp := false) only [hne, ↓cdK_false, ↓aw_skip, ↓aw_reg, ↓Qseq_n, ↓Qblk_n, ↓ops_nil, ↓ops_cons, ↓eval_tmp, ↓eval_int, ↓put_some, ↓binE_i, ↓bi_add, ↓in_i64, ↓op_move, ↓op_assign, ↓op_bin, List.getD_cons_zero, List.getD_cons_succ, List.set_cons_zero, List.set_cons_succ, Nat.reduceAdd, Nat.reduceSub, Nat.reduceMul, evK_go, reduceIte, Nat.reduceEqDiff, Nat.reduceLT]
        refine ⟨by omega, k + 1, by omega, by omega, ?_⟩
        refine Wkn.of [] [] ?_; simp (implicitDefEqProofs := false) (dsimp := false) only [List.set_cons_zero, List.set_cons_succ, Bool.and_self, Nat.reduceAdd, Nat.reduceSub, Nat.reduceMul, List.replicate, evK_go, reduceIte, Nat.reduceEqDiff, Nat.reduceLT, and_self, List.foldl_cons, List.foldl_nil, Int.cast_ofNat_Int, Int.natCast_add, slots, wkL_nil, wkL_cons, wkB_nil, wkR_nil, wkV_j, wkV_d, frz_d, reduceCtorEq]
      · simp (implicitDefEqProofs := false) (dsimp := false) only [↓aw_seq, ↓aw_exit, ↓aw_ret, ↓aw_reg, ↓Qseq_n, ↓Qseq_x, ↓Qblk_x, ↓Qret_r, ↓ops_nil, ↓ops_cons, ↓eval_tmp, ↓eval_bool, ↓put_some, ↓op_assign, ↓td_d, ↓ret_1, List.getD_cons_zero, List.getD_cons_succ, List.set_cons_zero, List.set_cons_succ, Nat.reduceAdd, Nat.reduceSub, Nat.reduceMul, evK_go, reduceIte, Nat.reduceEqDiff, Nat.reduceLT]
end Go.Proofs

namespace Go.Proofs
set_option maxRecDepth 100000
theorem cutNo : ("cut".toList == "gc".toList || "cut".toList == "spec".toList) = false := by kernel_rfl
theorem cutNo2 : ("cut".toList == "carried".toList) = false := by kernel_rfl
theorem cutStrip (T : List (List Char)) : stripLifts liftWords ("cut".toList :: T) = ([], "cut".toList :: T) := by kernel_rfl
theorem make_of {P : Program} {T : List (List Char)} (h : behindMainWord (wordsSigns P.initOrder.toList) = "cut".toList :: T) : P.make = some .cut := by
  unfold Program.make
  rw [h]
  simp (implicitDefEqProofs := false) (dsimp := false) only [cutNo, beq_self_eq_true, Bool.true_or, Bool.false_eq_true, if_false, if_true]
theorem enter_of {P : Program} {T : List (List Char)} (h : behindMainWord (wordsSigns P.initOrder.toList) = "cut".toList :: T) (h1 : P.laysLater = false) (h2 : P.bearsReflect = false) (h3 : P.doorFits [] = true) : P.mayEnter = true := by
  unfold Program.mayEnter
  rw [h]
  simp (implicitDefEqProofs := false) (dsimp := false) only [cutStrip, cutNo, cutNo2, h1, h2, h3, List.head?_cons, beq_self_eq_true, Bool.not_false, Bool.or_true, Bool.and_true, Bool.true_and]
  rfl
theorem final_of {P : Program} {T : List (List Char)} (h : behindMainWord (wordsSigns P.initOrder.toList) = "cut".toList :: T) : P.liftsFinal = false := by
  unfold Program.liftsFinal Program.headLifts
  rw [h]
  simp (implicitDefEqProofs := false) (dsimp := false) only [cutStrip]
  kernel_rfl
theorem cutWord : behindMainWord (wordsSigns Tryd.prog.initOrder.toList) = "cut".toList :: (behindMainWord (wordsSigns Tryd.prog.initOrder.toList)).tail := by
  have h : Tryd.prog.initOrder.toList = _ := String.toList_ofList
  rw [h]
  show (_ : List (List Char)) = _
  kernel_rfl
theorem pLater : Tryd.prog.laysLater = false := by
  unfold Program.laysLater
  rw [← Array.any_toList]
  kernel_rfl
theorem pReflect : Tryd.prog.bearsReflect = false := by kernel_rfl
theorem pDoor : Tryd.prog.doorFits [] = true := by kernel_rfl
theorem pMake : Tryd.prog.make = some .cut := make_of cutWord
theorem pEnter : Tryd.prog.mayEnter = true := enter_of cutWord pLater pReflect pDoor
theorem pFinal : Tryd.prog.liftsFinal = false := final_of cutWord
theorem pLaid : laidOutB Tryd.prog = true := by kernel_rfl
theorem pRowed : mapsRowed Tryd.prog = true := by kernel_rfl
theorem pStops : (Tryd.prog.stops == []) = true := by kernel_rfl
theorem pKnobs : (Tryd.prog.stopKnobs == []) = true := by kernel_rfl
theorem pHeard : Tryd.prog.stopsHeard = true := by kernel_rfl
theorem pMain : Tryd.prog.mainIs = some (true, "ef528b23815b70c2662300e7e3ba81efdd8130d758234ace3c638d7836b90011".toList) := by
  have h : Tryd.prog.initOrder.toList = _ := String.toList_ofList
  unfold Program.mainIs
  rw [h]
  show (_ : Option (Bool × List Char)) = _
  kernel_rfl
theorem pLooks : true = Tryd.prog.looks [] := by kernel_rfl
theorem pOwn : ownKnob Tryd.prog.godebug = none := by kernel_rfl
theorem andB {a b : Bool} (ha : a = true) (hb : b = true) : (a && b) = true := by rw [ha, hb]; rfl
end Go.Proofs
