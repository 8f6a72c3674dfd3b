/- Part W 2 of what the proof of HalvesSays stands on: what the functions of the program compute. -/
import Derived.Test.YtblhpmhfhpmifaaDoorW1
import Derived.ChangeSlices
set_option linter.unusedVariables false
set_option linter.unusedSimpArgs false
namespace Go.Proofs
open Go.Aw
set_option linter.unusedSimpArgs false
set_option maxRecDepth 10000
def rootR (n : Int) (l : List (Int × Int)) : List Nat := if chk n l = 0 then (List.range n.toNat).map (rootP n.toNat (natL l)) else []
theorem wparts_spec (n : Int) (l : List (Int × Int)) (hpre : l.length < 2 ^ 62) : FnD Tryd.prog 105 [I .i64 n, .l (l.map lnD)] (.t [.l ((rootR n l).map nD), erD (chk n l)]) := by
  refine FnD.go Tryd.func105 rfl rfl Tryd.results105 Tryd.ntmps105 ?_
  simp (implicitDefEqProofs := false) (dsimp := false) only [↓aw_seq, ↓aw_reg, ↓Qseq_n, ↓ops_nil, ↓ops_cons, ↓eval_tmp, ↓eval_nil, ↓eval_func, ↓put_some, ↓op_move, ↓op_assign, ↓op_call, isD_d, ↓fnK_f, ↓call_H, ↓callK_H, ↓allT_nil, ↓allT_cons, ↓td_d, List.getD_cons_zero, List.getD_cons_succ, List.set_cons_zero, List.set_cons_succ, List.cons_append, List.nil_append, List.append_nil, List.map_cons, List.map_nil, List.length_cons, List.length_nil, List.all_cons, List.all_nil, Bool.and_self, Nat.reduceAdd, Nat.reduceSub, Nat.reduceMul, Nat.zero_add, List.replicate, evK_go, reduceIte, Nat.reduceEqDiff, Nat.reduceLT, and_self, Int.zero_add]
  simp (implicitDefEqProofs := false) (dsimp := false) only [gcheck_call, eval_nilI, ↓er_neq, er_flat, ↓cdK_not, ↓aw_cond, ↓aw_seq, ↓aw_reg, ↓Qseq_n, ↓ops_nil, ↓ops_cons, ↓eval_tmp, ↓put_some, ↓bK_b, ↓op_move, ↓op_assign, ↓op_bin, List.getD_cons_zero, List.getD_cons_succ, List.set_cons_zero, List.set_cons_succ, Bool.true_and, Bool.or_true, Nat.reduceAdd, Nat.reduceSub, Nat.reduceMul, evK_go, reduceIte, Nat.reduceEqDiff, Nat.reduceLT, true_and]
  refine OrH.l (OrH.l ⟨hpre, ?_⟩)
  refine cdK_dec (fun hc => ?_) (fun hc => ?_)
  rotate_left
  · simp (implicitDefEqProofs := false) (dsimp := false) only [rootR, hc, ↓aw_seq, ↓aw_ret, ↓aw_reg, ↓Qseq_n, ↓Qseq_r, ↓Qret_r, ↓ops_nil, ↓ops_cons, ↓eval_tmp, ↓eval_nil, ↓put_some, ↓op_move, ↓op_assign, ↓td_d, ↓td_nl, ↓ret_2, List.getD_cons_zero, List.getD_cons_succ, List.set_cons_zero, List.set_cons_succ, List.map_nil, Nat.reduceAdd, Nat.reduceSub, Nat.reduceMul, evK_go, reduceIte, decide_false, Bool.not_false, Nat.reduceEqDiff, Nat.reduceLT]
  have ok := chk_ok hc
  rw [show rootR n l = (List.range n.toNat).map (rootP n.toNat (natL l)) from if_pos hc, lnD_nat ok.rng, hc]
  have hcr := ok.cr
  have h8 := ok.hi
  have e0 := ok.n0
  clear ok hc hpre
  generalize n.toNat = m at *
  subst e0
  generalize natL l = L at *
  have hsg := symL_good hcr.2.2
  have hSl := outS_len m (symL L)
  have hSt := outS_lt' (n := m) (by omega) hsg
  have hw : 2 ^ m - 1 < 2 ^ m := by have := Nat.one_le_two_pow (n := m); omega
  have hw64 : 2 ^ m - 1 < 2 ^ 64 := Nat.lt_of_lt_of_le hw (Nat.pow_le_pow_right (by omega) (by omega))
  have hroot : ∀ k, rootP m L k = low (reach (outS m (symL L)) (2 ^ m - 1) k) := fun _ => rfl
  have hrk := fun k h => (rs_bit (n := m) (by omega) hsg (a := k) h k).2 .refl
  have hrl : ∀ k, k < m → rs m (symL L) k < 2 ^ 64 := fun k h => rs_lt (by omega) hsg h
  unfold rs at hrk hrl
  simp (implicitDefEqProofs := false) (dsimp := false) only [beside_callD, hcr, ↓aw_seq, ↓aw_block, ↓aw_skip, ↓aw_loop, ↓aw_reg, ↓Qseq_n, ↓ops_nil, ↓ops_cons, ↓eval_tmp, ↓eval_int, ↓eval_nil, ↓eval_func, ↓put_some, ↓op_move, ↓op_assign, ↓op_call, isD_d, ↓fnK_f, ↓call_H, ↓callK_H, ↓allT_nil, ↓allT_cons, ↓td_d, List.getD_cons_zero, List.getD_cons_succ, List.set_cons_zero, List.set_cons_succ, List.append_nil, List.all_cons, List.all_nil, Bool.true_and, Bool.and_self, Bool.true_or, Nat.reduceAdd, Nat.reduceSub, Nat.reduceMul, evK_go, reduceIte, decide_true, Bool.not_true, Nat.reduceEqDiff, Nat.reduceLT, and_self, true_and]
  (repeat refine OrH.l ?_)
  generalize outS m (symL L) = S at *
  refine loopW (fun k : Nat => { tm := slots 36 [(0, .d (I .i64 (m : Int))), (7, .d (.l (S.map U))), (8, .o 0 0 k), (19, .d (I .i64 (m : Int))), (20, .d (I .i64 k))], bx := [], rw := [some ⟨1, (((List.range m).take k).map (rootP m L)).map nD⟩] })
    (fun k => k ≤ m) (fun k => m - k) 0 (by simp) ?_ ?_
  · refine Wkn.of [] [none] ?_
    simp (implicitDefEqProofs := false) (dsimp := false) only [↓row_xs, List.set_cons_zero, List.set_cons_succ, List.map_nil, Bool.and_self, Nat.reduceAdd, Nat.reduceSub, Nat.reduceMul, List.replicate, evK_go, reduceIte, Nat.reduceEqDiff, Nat.reduceLT, and_self, List.take_zero, List.foldl_cons, List.foldl_nil, Int.cast_ofNat_Int, slots, wkL_nil, wkL_cons, wkB_nil, wkR_nil, wkR_new, wkV_j, wkV_d, nlK_nl, wkV_o, frz_d, oK_zn, reduceCtorEq]
  · intro k hk
    simp (implicitDefEqProofs := false) (dsimp := false) only [slots, ↓aw_cond, ↓aw_seq, ↓aw_reg, ↓Qseq_n, ↓ops_nil, ↓ops_cons, ↓eval_tmp, ↓put_some, ↓bK_b, ↓binE_i, ↓bi_lss, ↓op_bin, List.getD_cons_zero, List.getD_cons_succ, List.set_cons_zero, List.set_cons_succ, Nat.reduceAdd, Nat.reduceSub, Nat.reduceMul, List.replicate, evK_go, reduceIte, Nat.reduceEqDiff, Nat.reduceLT, List.foldl_cons, List.foldl_nil, Int.ofNat_lt]
    refine cdK_dec (fun h => ?_) (fun h => ?_)
    · have hkS : k < S.length := by omega
      have hm64 : m < 64 := by omega
      have hpre : k < S.length ∧ S.length ≤ 64 ∧ 2 ^ m - 1 < 2 ^ S.length ∧ ∀ x ∈ S, x < 2 ^ 64 := ⟨hkS, by omega, by rw [hSl]; exact hw, hSt⟩
      have hrk := hrk k h
      have hrl := hrl k h
      have hroot := hroot k
      simp (implicitDefEqProofs := false) (dsimp := false) only [h, hm64, below_call, reach_call, hpre, list_callD, hrl, ↓optK_some, ↓rwK_mk_, ↓atK_H, ↓atH_map, ↓aw_seq, ↓aw_block, ↓aw_skip, ↓aw_reg, ↓Qseq_n, ↓Qblk_n, ↓ops_nil, ↓ops_cons, ↓eval_tmp, ↓eval_int, ↓eval_func, ↓put_some, ↓iK_i, ↓dK_d, ↓binE_i, ↓bi_add, ↓in_i64, ↓ldK_q, ↓iaK_l, ↓op_move, ↓op_assign, ↓op_load, ↓op_bin, ↓op_ia, ↓op_append, ↓op_call, isD_d, ↓fnK_f, ↓call_H, ↓callK_H, ↓allT_nil, ↓allT_cons, ↓allD_nil, ↓allD_cons, ↓td_d, ↓app_mk, ↓row_sz, ↓row_xs, kill_d, kill_j, kill_o, ↓cells_c, ↓one_i, ↓ap_, ↓ap_o, ↓src_l, ↓bs_, ↓op_bs, ↓bsL_f, ↓stored_mk, ↓sl_nil, ↓sl_cons, ↓sT_move, ↓sT_assign, ↓sT_load, ↓sT_ia, ↓sT_bs, ↓sT_call, ↓vsz_int, ↓inO_1, ↓fm_nil, ↓fm_cons, ↓hd_cons, ↓ty3, ↓zb3, ↓sl24, List.getD_cons_zero, List.getD_cons_succ, List.set_cons_zero, List.set_cons_succ, List.append_nil, List.map_cons, List.map_nil, List.length_cons, List.length_nil, List.length_map, List.all_cons, List.all_nil, Bool.true_and, Bool.and_self, Bool.true_or, Bool.or_false, Nat.reduceAdd, Nat.reduceSub, Nat.reduceMul, Nat.zero_add, Int.toNat_zero, evK_go, reduceIte, decide_true, Nat.reduceEqDiff, Nat.reduceLT, and_self, true_and, Int.zero_add, List.drop_zero]
      (repeat refine OrH.l ?_)
      have hp : pts (reach S (2 ^ m - 1) k) ≠ [] := fun e => by
        have hm := (pts_mem _ _).2 ⟨by omega, hrk⟩
        rw [e] at hm; cases hm
      have e1 : (ptsI (reach S (2 ^ m - 1) k)).getD 0 default = (rootP m L k : Int) := by
        rw [hroot]
        unfold low ptsI
        cases hpp : pts (reach S (2 ^ m - 1) k) with
        | nil => exact absurd hpp hp
        | cons x t => rfl
      have hpos : 0 < (ptsI (reach S (2 ^ m - 1) k)).length := by rw [ptsI, List.length_map]; exact List.length_pos_iff.2 hp
      have e2 : (List.range m).take (k + 1) = (List.range m).take k ++ [k] := by
        rw [take_succ_getD (by simpa using h), List.getD_eq_getElem?_getD, List.getElem?_range h]; rfl
      refine ⟨hSt, ?_⟩
      (repeat refine OrH.l ?_)
      refine ⟨by omega, hpos, by decide, ⟨fun _ => trivial, by simp; omega, by omega, by omega⟩, by omega, k + 1, by omega, by omega, ?_⟩
      refine Wkn.of [] [some 0] ?_
      simp (implicitDefEqProofs := false) (dsimp := false) only [e1, e2, List.map_append, nD, List.getD_cons_zero, List.set_cons_zero, List.set_cons_succ, List.map_cons, List.map_nil, Bool.and_self, Nat.reduceAdd, Nat.reduceSub, Nat.reduceMul, List.replicate, evK_go, reduceIte, Nat.reduceEqDiff, Nat.reduceLT, and_self, List.foldl_cons, List.foldl_nil, Int.cast_ofNat_Int, Int.natCast_add, slots, wkL_nil, wkL_cons, wkB_nil, wkR_nil, wkR_some, wkV_j, wkV_d, wkV_o, frz_d, oK_zs, reduceCtorEq]
    · obtain rfl : k = m := by omega
      have e1 : (List.range k).take k = List.range k := List.take_of_length_le (by simp)
      have e2 : List.take k (List.map nD (List.map (rootP k L) (List.range k))) = ((List.range k).map (rootP k L)).map nD := List.take_of_length_le (by simp)
      simp (implicitDefEqProofs := false) (dsimp := false) only [e1, e2, erD_0, eval_nilI, ↓optK_some, ↓rwK_mk_, ↓aw_seq, ↓aw_exit, ↓aw_ret, ↓aw_reg, ↓Qseq_n, ↓Qseq_x, ↓Qblk_x, ↓Qret_r, ↓ops_nil, ↓ops_cons, ↓eval_tmp, ↓put_some, ↓op_move, ↓op_assign, ↓td_d, ↓td_o, ↓ret_2, ↓row_xs, List.getD_cons_zero, List.getD_cons_succ, List.set_cons_zero, List.set_cons_succ, Nat.reduceAdd, Nat.reduceSub, Nat.reduceMul, evK_go, reduceIte, decide_false, Nat.reduceEqDiff, Nat.reduceLT, Nat.lt_irrefl, List.drop_zero]
theorem wparts_call (n : Int) (l : List (Int × Int)) (pure : Bool) (σ : St) (dst : Option Tmp) (K : St → Prop) : CallH Tryd.prog 105 [I .i64 n, .l (l.map lnD)] pure σ dst (.mk : Hid K) = OrH ((l.length < 2 ^ 62) ∧ (pure || D.flat (.t [.l ((rootR n l).map nD), erD (chk n l)])) = true ∧ evK (σ.put dst (.d (.t [.l ((rootR n l).map nD), erD (chk n l)]))) (.mk : Hid K)) (.mk : Hid (CallH Tryd.prog 105 [I .i64 n, .l (l.map lnD)] pure σ dst (.mk : Hid K))) := CallH.eq (wparts_spec n l) pure σ dst K
def farR (n : Int) (l : List (Int × Int)) (f : Int) : List Int := if chk n l = 0 then (if inB f 0 (n - 1) = true then farL n.toNat (natL l) f.toNat else []) else []
def farE (n : Int) (l : List (Int × Int)) (f : Int) : Int := if chk n l = 0 then (if inB f 0 (n - 1) = true then 0 else 1) else chk n l
theorem bStart_len (n f : Nat) : (bStart n f).out.length = n := by simp [bStart]
def negK (n k : Nat) : List Int := List.replicate k (-1) ++ List.replicate (n - k) 0
theorem negK_zero (n : Nat) : negK n 0 = List.replicate n 0 := by simp [negK]
theorem negK_all (n : Nat) : negK n n = List.replicate n (-1) := by simp [negK]
theorem negK_len {n k : Nat} (h : k ≤ n) : (negK n k).length = n := by simp [negK]; omega
theorem negK_set {n k : Nat} (h : k < n) : (negK n k).set k (-1) = negK n (k + 1) := by
  refine List.ext_getElem (by simp [negK]; omega) fun i h1 h2 => ?_
  rw [List.getElem_set]
  simp (implicitDefEqProofs := false) (dsimp := false) only [negK, List.getElem_append, List.getElem_replicate, List.length_replicate]
  repeat' split
  all_goals first | rfl | omega
theorem inW_iff {x lo hi : Int} : inB x lo hi = true ↔ lo ≤ x ∧ x ≤ hi := by simp [inB]
structure FI where
  q : Nat
  pre : List Nat
  st : BS
theorem wfrom_spec (n : Int) (l : List (Int × Int)) (f : Int) (hpre : l.length < 2 ^ 62) : FnD Tryd.prog 106 [I .i64 n, .l (l.map lnD), I .i64 f] (.t [.l ((farR n l f).map (I .i64)), erD (farE n l f)]) := by
  refine FnD.go Tryd.func106 rfl rfl Tryd.results106 Tryd.ntmps106 ?_
  simp (implicitDefEqProofs := false) (dsimp := false) only [↓aw_seq, ↓aw_reg, ↓Qseq_n, ↓ops_nil, ↓ops_cons, ↓eval_tmp, ↓eval_nil, ↓eval_func, ↓put_some, ↓op_move, ↓op_assign, ↓op_call, isD_d, ↓fnK_f, ↓call_H, ↓callK_H, ↓allT_nil, ↓allT_cons, ↓td_d, List.getD_cons_zero, List.getD_cons_succ, List.set_cons_zero, List.set_cons_succ, List.cons_append, List.nil_append, List.append_nil, List.map_cons, List.map_nil, List.length_cons, List.length_nil, List.all_cons, List.all_nil, Bool.and_self, Nat.reduceAdd, Nat.reduceSub, Nat.reduceMul, Nat.zero_add, List.replicate, evK_go, reduceIte, Nat.reduceEqDiff, Nat.reduceLT, and_self, Int.zero_add]
  simp (implicitDefEqProofs := false) (dsimp := false) only [gcheck_call, eval_nilI, ↓er_neq, er_flat, ↓cdK_not, ↓aw_cond, ↓aw_seq, ↓aw_reg, ↓Qseq_n, ↓ops_nil, ↓ops_cons, ↓eval_tmp, ↓put_some, ↓bK_b, ↓op_move, ↓op_assign, ↓op_bin, List.getD_cons_zero, List.getD_cons_succ, List.set_cons_zero, List.set_cons_succ, Bool.true_and, Bool.or_true, Nat.reduceAdd, Nat.reduceSub, Nat.reduceMul, evK_go, reduceIte, Nat.reduceEqDiff, Nat.reduceLT, true_and]
  refine OrH.l (OrH.l ⟨hpre, ?_⟩)
  refine cdK_dec (fun hc => ?_) (fun hc => ?_)
  rotate_left
  · simp (implicitDefEqProofs := false) (dsimp := false) only [farR, farE, hc, ↓aw_seq, ↓aw_ret, ↓aw_reg, ↓Qseq_n, ↓Qseq_r, ↓Qret_r, ↓ops_nil, ↓ops_cons, ↓eval_tmp, ↓eval_nil, ↓put_some, ↓op_move, ↓op_assign, ↓td_d, ↓td_nl, ↓ret_2, List.getD_cons_zero, List.getD_cons_succ, List.set_cons_zero, List.set_cons_succ, List.map_nil, Nat.reduceAdd, Nat.reduceSub, Nat.reduceMul, evK_go, reduceIte, decide_false, Bool.not_false, Nat.reduceEqDiff, Nat.reduceLT]
  have ok := chk_ok hc
  have h8 := ok.hi
  have e0 := ok.n0
  simp (implicitDefEqProofs := false) (dsimp := false) only [within_call, ↓cdK_not, ↓aw_cond, ↓aw_seq, ↓aw_skip, ↓aw_reg, ↓Qseq_n, ↓ops_nil, ↓ops_cons, ↓eval_tmp, ↓eval_int, ↓eval_func, ↓put_some, ↓bK_b, ↓binE_i, ↓bi_sub, ↓in_i64, ↓op_move, ↓op_bin, ↓op_not, ↓op_call, isD_d, ↓fnK_f, ↓call_H, ↓callK_H, ↓allT_nil, ↓allT_cons, ↓td_d, List.getD_cons_zero, List.getD_cons_succ, List.set_cons_zero, List.set_cons_succ, List.append_nil, List.all_cons, List.all_nil, Bool.true_and, Bool.and_self, Bool.true_or, Nat.reduceAdd, Nat.reduceSub, Nat.reduceMul, evK_go, reduceIte, Nat.reduceEqDiff, Nat.reduceLT, and_self, true_and]
  (repeat refine OrH.l ?_)
  refine ⟨by omega, ?_⟩
  (repeat refine OrH.l ?_)
  rw [show farR n l f = (if inB f 0 (n - 1) = true then farL n.toNat (natL l) f.toNat else []) from if_pos hc, show farE n l f = (if inB f 0 (n - 1) = true then 0 else 1) from if_pos hc, lnD_nat ok.rng]
  refine cdK_split (fun hb => ?_) (fun hb => ?_)
  · obtain ⟨hf1, hf2⟩ := inW_iff.1 hb
    have hcr := ok.cr
    rw [if_pos hb, if_pos hb]
    simp (implicitDefEqProofs := false) (dsimp := false) only [hb, ↓optK_some, ↓rwK_mk_, ↓nthK_H, ↓nthH_zero, ↓aw_seq, ↓aw_block, ↓aw_skip, ↓aw_loop, ↓aw_reg, ↓Qseq_n, ↓ops_nil, ↓ops_cons, ↓eval_tmp, ↓eval_int, ↓put_some, ↓put_none, ↓iK_i, ↓dK_d, ↓lenK_o, ↓ldK_p, ↓op_move, ↓op_load, ↓op_len, ↓op_alloc, ↓op_store, ↓op_make, ↓addBox_mk, ↓addRow_mk, ↓setBox_mk, ↓st_bx, ↓st_rw, ↓cells_c, ↓vcells_nl, ↓vcells_o, ↓one_i, ↓vone_o, constV_i, constV_n, ↓st_p, ↓mk_, ↓vsz_int, ↓ty3, ↓zb3, ↓ty24, ↓sl24, ↓zb24, List.getD_cons_zero, List.getD_cons_succ, List.set_cons_zero, List.set_cons_succ, List.nil_append, List.length_cons, List.length_nil, List.all_cons, List.all_nil, Bool.and_true, Bool.true_and, Bool.and_self, Nat.reduceAdd, Nat.reduceSub, Nat.reduceMul, Nat.zero_add, evK_go, reduceIte, Bool.not_true, Nat.reduceEqDiff, Nat.reduceLT, and_self, true_and, and_true, Int.zero_add]
    refine ⟨⟨by omega, by omega, by decide⟩, ?_⟩
    rw [hc]
    have ef : f = (f.toNat : Int) := by omega
    have hfm : f.toNat < n.toNat := by omega
    clear ok hc hpre hb hf1 hf2
    generalize n.toNat = m at *
    generalize f.toNat = f' at *
    subst e0 ef
    generalize natL l = L at *
    have hsg := symL_good hcr.2.2
    have hSl := outS_len m (symL L)
    have hSt := outS_lt' (n := m) (by omega) hsg
    refine loopW (fun k : Nat => { tm := slots 79 [(0, .d (I .i64 (m : Int))), (1, .d (.l (L.map lnN))), (2, .d (I .i64 (f' : Int))), (9, .p 0 0), (29, .d (I .i64 (m : Int))), (30, .d (I .i64 k))], bx := [.o 0 0 m], rw := [some ⟨1, (negK m k).map (I .i64)⟩] })
      (fun k => k ≤ m) (fun k => m - k) 0 (by simp) ?_ ?_
    · refine Wkn.of [0] [some 0] ?_
      simp (implicitDefEqProofs := false) (dsimp := false) only [negK_zero, List.map_replicate, ↓vcells_o, List.getD_cons_zero, List.set_cons_zero, List.set_cons_succ, List.length_cons, List.length_nil, Bool.and_self, Nat.reduceAdd, Nat.reduceSub, Nat.reduceMul, Nat.zero_add, List.replicate, evK_go, reduceIte, decide_true, Bool.not_true, Nat.reduceEqDiff, Nat.reduceLT, and_self, Int.zero_add, List.foldl_cons, List.foldl_nil, Int.cast_ofNat_Int, slots, wkL_nil, wkL_cons, wkB_nil, wkB_cons, wkR_nil, wkR_some, wkV_j, wkV_d, wkV_o, wkV_p, frz_d, oK_zs, pK_z, reduceCtorEq]
    · intro k hk
      have hnl := negK_len hk
      simp (implicitDefEqProofs := false) (dsimp := false) only [slots, ↓aw_cond, ↓aw_seq, ↓aw_reg, ↓Qseq_n, ↓ops_nil, ↓ops_cons, ↓eval_tmp, ↓put_some, ↓bK_b, ↓binE_i, ↓bi_lss, ↓op_bin, List.getD_cons_zero, List.getD_cons_succ, List.set_cons_zero, List.set_cons_succ, Nat.reduceAdd, Nat.reduceSub, Nat.reduceMul, List.replicate, evK_go, reduceIte, Nat.reduceEqDiff, Nat.reduceLT, List.foldl_cons, List.foldl_nil, Int.ofNat_lt]
      refine cdK_dec (fun h => ?_) (fun h => ?_)
      · have hns := negK_set h
        simp (implicitDefEqProofs := false) (dsimp := false) only [h, ↓optK_some, ↓rwK_mk_, ↓nthK_H, ↓nthH_zero, ↓aw_seq, ↓aw_block, ↓aw_skip, ↓aw_reg, ↓Qseq_n, ↓Qblk_n, ↓ops_nil, ↓ops_cons, ↓eval_tmp, ↓eval_int, ↓put_some, ↓put_none, ↓iK_i, ↓dK_d, ↓binE_i, ↓bi_add, ↓in_i64, ↓ldK_p, ↓iaK_o, ↓op_move, ↓op_assign, ↓op_load, ↓op_bin, ↓op_ia, ↓op_store, ↓setRow_mk, ↓row_sz, ↓row_xs, ↓cells_c, ↓vcells_o, ↓one_i, ↓st_e, ↓ty3, ↓ty24, ↓sl24, List.getD_cons_zero, List.getD_cons_succ, List.set_cons_zero, List.set_cons_succ, List.length_cons, List.length_nil, List.all_cons, List.all_nil, Bool.true_and, Bool.and_self, Nat.reduceAdd, Nat.reduceSub, Nat.reduceMul, Nat.zero_add, Int.toNat_natCast, evK_go, reduceIte, decide_true, Nat.reduceEqDiff, Nat.reduceLT, and_self, true_and, Int.zero_add, Int.ofNat_lt, Int.natCast_nonneg]
        refine ⟨by omega, k + 1, by omega, by omega, ?_⟩
        refine Wkn.of [0] [some 0] ?_
        simp (implicitDefEqProofs := false) (dsimp := false) only [← hns, List.map_set, ↓vcells_o, List.getD_cons_zero, List.set_cons_zero, List.set_cons_succ, List.length_cons, List.length_nil, Bool.and_self, Nat.reduceAdd, Nat.reduceSub, Nat.reduceMul, Nat.zero_add, List.replicate, evK_go, reduceIte, Nat.reduceEqDiff, Nat.reduceLT, and_self, Int.zero_add, List.foldl_cons, List.foldl_nil, Int.cast_ofNat_Int, Int.natCast_add, slots, wkL_nil, wkL_cons, wkB_nil, wkB_cons, wkR_nil, wkR_some, wkV_j, wkV_d, wkV_o, wkV_p, frz_d, oK_zs, pK_z, reduceCtorEq]
      · obtain rfl : k = m := by omega
        have hst0 : (List.map (I .i64) (negK k k)).set f' (I .i64 0) = ((bStart k f').out).map (I .i64) := by rw [negK_all, bStart, List.map_set]
        have hbl := bStart_len k f'
        obtain ⟨hBI0, hBC0, hrm0⟩ := BI.start hsg hfm
        have hfar : farL k L f' = (bRun (outS k (symL L)) k (bStart k f')).out := rfl
        have htd : (bStart k f').todo = [f'] := rfl
        have hstep := fun s h1 h2 h3 => BI.step (n := k) (l := symL L) (f := f') (by omega) hsg (s := s) h1 h2 h3
        have hjs := fun x (hx : x < k) => BI.js hsg (f := f') hx
        have hmem := fun a b => mem_next (n := k) (by omega) hsg (i := a) (j := b)
        simp (implicitDefEqProofs := false) (dsimp := false) only [hst0, beside_callD, hcr, ↓optK_some, ↓rwK_mk_, ↓nthK_H, ↓nthH_zero, ↓aw_seq, ↓aw_block, ↓aw_exit, ↓aw_loop, ↓aw_reg, ↓Qseq_n, ↓Qseq_x, ↓Qblk_x, ↓ops_nil, ↓ops_cons, ↓eval_tmp, ↓eval_int, ↓eval_func, ↓put_some, ↓put_none, ↓iK_i, ↓dK_d, ↓ldK_p, ↓iaK_o, ↓op_move, ↓op_assign, ↓op_load, ↓op_ia, ↓op_call, ↓op_alloc, ↓op_store, isD_d, ↓fnK_f, ↓call_H, ↓callK_H, ↓allT_nil, ↓allT_cons, ↓allD_nil, ↓allD_cons, ↓td_d, ↓addBox_mk, ↓addRow_mk, ↓setBox_mk, ↓setRow_mk, ↓st_bx, ↓st_rw, ↓row_sz, ↓row_xs, ↓cells_c, ↓vcells_nl, ↓vcells_o, ↓one_i, ↓vone_o, constV_n, ↓st_p, ↓st_e, ↓bs_, ↓op_bs, ↓bsL_t, ↓stored_mk, ↓sl_nil, ↓sl_cons, ↓st_store_t, ↓sT_move, ↓sT_bs, ↓sT_alloc, ↓beq_some, ↓vsz_int, ↓inO_1, ↓fm_nil, ↓fm_cons, ↓ty3, ↓zb3, ↓ty24, ↓sl24, ↓zb24, List.getD_cons_zero, List.getD_cons_succ, List.set_cons_zero, List.set_cons_succ, List.cons_append, List.nil_append, List.append_nil, List.map_cons, List.map_nil, List.length_cons, List.length_nil, List.all_cons, List.all_nil, Bool.true_and, Bool.and_self, Bool.or_true, Bool.true_or, Bool.or_false, Nat.reduceAdd, Nat.reduceSub, Nat.reduceMul, Nat.zero_add, Int.toNat_natCast, evK_go, reduceIte, decide_true, decide_false, Nat.reduceEqDiff, Nat.reduceLT, and_self, true_and, Nat.lt_irrefl, Int.zero_add, Int.ofNat_lt, Int.natCast_nonneg]
        refine ⟨hfm, ?_⟩
        (repeat refine OrH.l ?_)
        generalize bStart k f' = s0 at *
        generalize outS k (symL L) = S at *
        refine ⟨by decide, ?_⟩
        refine loopW (fun x : FI => { tm := slots 79 [(0, .d (I .i64 (k : Int))), (9, .p 0 0), (11, .d (.l (S.map U))), (12, .p 1 0)], bx := [.o 0 0 k, .o 1 x.pre.length x.st.todo.length], rw := [some ⟨1, x.st.out.map (I .i64)⟩, some ⟨1, (x.pre ++ x.st.todo).map nD⟩] })
          (fun x => BI k (symL L) f' x.st ∧ BC (symL L) x.st (fun _ => False) ∧ x.st.todo.length + negs x.st.out ≤ x.q ∧ x.q ≤ k ∧ bRun S x.q x.st = bRun S k s0) (fun x => x.q) ⟨k, [], s0⟩ ⟨hBI0, hBC0, by show s0.todo.length + negs s0.out ≤ k; omega, Nat.le_refl _, rfl⟩ ?_ ?_
        · refine Wkn.of [0, 1] [some 0, some 1] ?_
          simp (implicitDefEqProofs := false) (dsimp := false) only [htd, nD, List.map_cons, List.map_nil, List.nil_append, List.length_nil, List.length_cons, ↓vcells_o, List.getD_cons_zero, List.getD_cons_succ, List.set_cons_zero, List.set_cons_succ, List.nil_append, List.map_cons, List.map_nil, List.length_cons, List.length_nil, Bool.and_self, Nat.reduceAdd, Nat.reduceSub, Nat.reduceMul, Nat.zero_add, List.replicate, evK_go, reduceIte, Nat.reduceEqDiff, Nat.reduceLT, and_self, Int.zero_add, List.foldl_cons, List.foldl_nil, slots, wkL_nil, wkL_cons, wkB_nil, wkB_cons, wkR_nil, wkR_some, wkV_j, wkV_d, wkV_o, wkV_p, frz_d, oK_zs, oK_s, pK_z, pK_s, reduceCtorEq]
        · rintro ⟨q, pre, s⟩ ⟨hI, hC, hr, hqk, hrun⟩
          simp only at hI hC hr hqk hrun
          simp (implicitDefEqProofs := false) (dsimp := false) only [slots, ↓optK_some, ↓rwK_mk_, ↓nthK_H, ↓nthH_zero, ↓aw_cond, ↓aw_seq, ↓aw_reg, ↓Qseq_n, ↓ops_nil, ↓ops_cons, ↓eval_tmp, ↓eval_int, ↓put_some, ↓bK_b, ↓lenK_o, ↓binE_i, ↓bi_gtr, ↓ldK_p, ↓op_load, ↓op_bin, ↓op_len, ↓vcells_o, ↓ty24, ↓sl24, List.getD_cons_zero, List.getD_cons_succ, List.set_cons_zero, List.set_cons_succ, Nat.reduceAdd, Nat.reduceSub, Nat.reduceMul, List.replicate, evK_go, reduceIte, Nat.reduceEqDiff, Nat.reduceLT, List.foldl_cons, List.foldl_nil]
          refine cdK_dec (fun h1 => ?_) (fun h1 => ?_)
          · have hne : s.todo ≠ [] := fun e => by rw [e] at h1; simp at h1
            obtain ⟨hI', hC', hr'⟩ := hstep s hI hC hne
            obtain ⟨x, t, e⟩ := List.exists_cons_of_ne_nil hne
            have ex : s.todo.getD 0 default = x := by rw [e]; rfl
            have hx := hI.todo x (by rw [e]; simp)
            have hel : (pre ++ s.todo).getD pre.length default = x := by
              rw [List.getD_eq_getElem?_getD, List.getElem?_append_right (Nat.le_refl _), Nat.sub_self, e]; rfl
            have hell : pre.length < (pre ++ s.todo).length := by rw [List.length_append, e]; simp
            have hxS : x < S.length := by omega
            have hxt := hSt _ (getD_mem hxS)
            simp (implicitDefEqProofs := false) (dsimp := false) only [hel, hell, hxS, nD, each_call, ↓optK_some, ↓rwK_mk_, ↓atK_H, ↓atH_map, ↓nthK_H, ↓nthH_zero, ↓aw_seq, ↓aw_block, ↓aw_skip, ↓aw_rng, ↓aw_reg, ↓Qseq_n, ↓ops_nil, ↓ops_cons, ↓eval_tmp, ↓eval_int, ↓eval_func, ↓put_some, ↓iK_i, ↓ldK_q, ↓ldK_p, ↓ldK_e, ↓iaK_l, ↓iaK_o, ↓op_move, ↓op_load, ↓op_ia, ↓op_call, isD_d, ↓fnK_f, ↓call_H, ↓callK_H, ↓allT_nil, ↓allT_cons, ↓td_d, ↓row_sz, ↓row_xs, ↓cells_c, ↓vcells_o, ↓hd_cons, ↓ty3, ↓ty24, ↓sl24, ↓sl99, ↓ty102, List.getD_cons_zero, List.getD_cons_succ, List.set_cons_zero, List.set_cons_succ, List.append_nil, List.length_cons, List.length_nil, List.all_cons, List.all_nil, Bool.true_and, Bool.and_self, Bool.true_or, Nat.reduceAdd, Nat.reduceSub, Nat.reduceMul, Nat.zero_add, Nat.add_zero, Int.toNat_natCast, Int.toNat_zero, evK_go, reduceIte, Nat.reduceEqDiff, Nat.reduceLT, and_self, true_and, Int.zero_add, Int.natCast_nonneg]
            refine ⟨⟨by omega, h1⟩, ?_⟩
            (repeat refine OrH.l ?_)
            refine rangeW (slots 79 [(0, .d (I .i64 (k : Int))), (9, .p 0 0), (11, .d (.l (S.map U))), (12, .p 1 0), (56, .d (.f (.func 111) [.q [U (S.getD x default)]]))])
              (fun y : FI => [.o 0 0 k, .o 1 y.pre.length y.st.todo.length]) (fun y => [some ⟨1, y.st.out.map (I .i64)⟩, some ⟨1, (y.pre ++ y.st.todo).map nD⟩])
              (fun ys y => ∃ P : List Nat, ys = P.map Int.ofNat ∧ y.st = P.foldl (bJ x) s) ⟨0, pre, s⟩
              (by simp [slots]) (each_iter _ hxt) ?_ ⟨[], rfl, rfl⟩ ?_ ?_ ?_
            · simp (implicitDefEqProofs := false) (dsimp := false) only [slots, ↓eval_tmp, List.getD_cons_zero, List.getD_cons_succ, List.set_cons_zero, List.set_cons_succ, Nat.reduceAdd, Nat.reduceSub, Nat.reduceMul, List.replicate, evK_go, reduceIte, Nat.reduceEqDiff, Nat.reduceLT, List.foldl_cons, List.foldl_nil]
            · refine Wkn.of [0, 1] [some 0, some 1] ?_
              simp (implicitDefEqProofs := false) (dsimp := false) only [↓vcells_o, List.getD_cons_zero, List.getD_cons_succ, List.set_cons_zero, List.set_cons_succ, List.length_cons, List.length_nil, Bool.and_self, Nat.reduceAdd, Nat.reduceSub, Nat.reduceMul, Nat.zero_add, List.replicate, evK_go, reduceIte, Nat.reduceEqDiff, Nat.reduceLT, and_self, Int.zero_add, List.foldl_cons, List.foldl_nil, slots, wkL_nil, wkL_cons, wkB_nil, wkB_cons, wkR_nil, wkR_some, wkV_j, wkV_d, wkV_o, wkV_p, frz_d, oK_zs, oK_s, pK_z, pK_s, reduceCtorEq]
            · rintro ys y ⟨q', pre', s'⟩ hpx ⟨P, rfl, hs'⟩
              obtain ⟨P', c, hP, rfl, hcc⟩ := prefix_map hpx
              obtain rfl : P = P' := ofNat_inj hP
              simp only at hs'
              have hcm : c ∈ pts (S.getD x default) := hcc.subset (by simp : c ∈ P ++ [c])
              have hsub : ∀ j ∈ P, (x, j) ∈ symL L := fun j hj => (hmem x j).1 (hcc.subset (by simp [hj]))
              obtain ⟨g1, g2, g3, g4, g5, g6⟩ := hjs x hx.1 P s hI hx.2 hsub
              have hn' : (P ++ [c]).foldl (bJ x) s = bJ x s' c := by rw [List.foldl_append, ← hs']; rfl
              rw [← hs'] at g1 g2 g3 g4 g5 g6
              have hck := (hsg _ ((hmem x c).1 hcm)).2
              have hol := g1.len
              have hg2 := g2 x hx.2
              have hx0 := hx.2
              rw [← hg2] at hx0
              simp (implicitDefEqProofs := false) (dsimp := false) only [slots, hck, hol, ↓optK_some, ↓rwK_mk_, ↓atK_H, ↓atH_map, ↓nthK_H, ↓nthH_zero, ↓aw_cond, ↓aw_seq, ↓aw_block, ↓aw_reg, ↓Qseq_n, ↓ops_nil, ↓ops_cons, ↓eval_tmp, ↓eval_int, ↓put_some, ↓bK_b, ↓iK_i, ↓binE_i, ↓bi_lss, ↓ldK_p, ↓ldK_e, ↓iaK_o, ↓op_move, ↓op_assign, ↓op_load, ↓op_bin, ↓op_ia, ↓row_sz, ↓row_xs, ↓cells_c, ↓vcells_o, ↓Qn_n, ↓ty3, ↓ty24, ↓sl24, List.getD_cons_zero, List.getD_cons_succ, List.set_cons_zero, List.set_cons_succ, Bool.true_and, Bool.and_self, Nat.reduceAdd, Nat.reduceSub, Nat.reduceMul, Nat.zero_add, Int.toNat_natCast, List.replicate, evK_go, reduceIte, Nat.reduceEqDiff, Nat.reduceLT, and_self, true_and, Int.zero_add, List.foldl_cons, List.foldl_nil, Int.ofNat_lt, Int.natCast_nonneg]
              refine cdK_dec (fun h2 => ?_) (fun h2 => ?_)
              · have hb2 : bJ x s' c = ⟨s'.out.set c (s'.out.getD x default + 1), s'.todo ++ [c]⟩ := if_pos h2
                obtain ⟨u, hu⟩ := g4
                have hel' : (pre' ++ s'.todo).getD pre'.length default = x := by
                  rw [List.getD_eq_getElem?_getD, List.getElem?_append_right (Nat.le_refl _), Nat.sub_self, ← hu, e]; rfl
                have hell' : pre'.length < (pre' ++ s'.todo).length := by rw [List.length_append, ← hu, e]; simp
                have htl : 0 < s'.todo.length := by rw [← hu, e]; simp
                have hxk := hx.1
                have hdr : List.drop pre'.length (List.map nD (pre' ++ s'.todo)) = List.map nD s'.todo := by rw [← List.map_drop, List.drop_left]
                have hvx : s'.out.getD x default ≤ 8 := by
                  rcases g1.val x hxk with h3 | ⟨k0, h3, _, h4⟩
                  · omega
                  · omega
                simp (implicitDefEqProofs := false) (dsimp := false) only [hel', hell', hxk, hck, hol, hdr, nD, ↓optK_some, ↓rwK_mk_, ↓atK_H, ↓atH_map, ↓nthK_H, ↓nthH_zero, ↓aw_seq, ↓aw_reg, ↓aw_draw, ↓Qseq_n, ↓Qblk_n, ↓ops_nil, ↓ops_cons, ↓eval_tmp, ↓eval_int, ↓put_some, ↓put_none, ↓iK_i, ↓dK_d, ↓ev_move, ↓ev_load, ↓ev_bin, ↓ev_ia, ↓binE_i, ↓bi_add, ↓in_i64, ↓ldK_p, ↓ldK_e, ↓iaK_o, ↓op_move, ↓op_load, ↓op_append, ↓op_store, ↓allD_nil, ↓allD_cons, ↓draw_H, ↓h_cons, ↓ldH_t, ↓ldH_n, ↓q_move, ↓q_load, ↓q_bin, ↓q_ia, ↓il_move, ↓il_load, ↓il_bin, ↓il_ia, ↓il_store, ↓setBox_mk, ↓setRow_mk, ↓app_mk, ↓st_bx, ↓row_sz, ↓row_xs, kill_d, kill_j, kill_p, kill_o, kill_e, ↓cells_c, ↓vcells_j, ↓vcells_o, ↓one_i, ↓vone_o, ↓st_p, ↓st_e, ↓ap_, ↓ap_o, ↓src_l, ↓bs_, ↓op_bs, ↓bsL_f, ↓stored_mk, ↓sl_nil, ↓sl_cons, ↓st_store_t, ↓sT_move, ↓sT_load, ↓sT_bs, ↓sT_call, ↓beq_some, ↓vsz_int, ↓inO_1, ↓fm_nil, ↓fm_cons, ↓Qrd_n, ↓back_mk, ↓ty3, ↓zb3, ↓ty24, ↓sl24, List.getD_cons_zero, List.getD_cons_succ, List.set_cons_zero, List.set_cons_succ, List.map_cons, List.map_nil, List.length_cons, List.length_nil, List.length_map, List.all_cons, List.all_nil, Bool.true_and, Bool.and_self, Bool.or_false, Nat.reduceAdd, Nat.reduceSub, Nat.reduceMul, Nat.zero_add, Nat.add_zero, Int.toNat_natCast, Int.toNat_zero, evK_go, reduceIte, decide_false, Nat.reduceEqDiff, Nat.reduceLT, and_self, true_and, Int.zero_add, Int.ofNat_lt, Int.natCast_nonneg]
                refine OrH.l ⟨DrawH.of follows_mixed (by kernel_rfl), ⟨by omega, by omega⟩, ⟨by omega, by omega⟩, by decide, ⟨fun h => (by cases h), by simp, by omega, by omega⟩, ⟨q', [], bJ x s' c⟩, ⟨P ++ [c], by simp, by rw [hn']⟩, ?_⟩
                refine Wkn.of [0, 1] [some 0, some 1] ?_
                simp (implicitDefEqProofs := false) (dsimp := false) only [hb2, List.map_set, List.nil_append, List.map_append, List.length_append, List.length_nil, nD, ↓vcells_o, List.getD_cons_zero, List.getD_cons_succ, List.set_cons_zero, List.set_cons_succ, List.nil_append, List.map_cons, List.map_nil, List.length_cons, List.length_nil, Bool.and_self, Nat.reduceAdd, Nat.reduceSub, Nat.reduceMul, Nat.zero_add, List.replicate, evK_go, reduceIte, Nat.reduceEqDiff, Nat.reduceLT, and_self, Int.zero_add, List.foldl_cons, List.foldl_nil, slots, wkL_nil, wkL_cons, wkB_nil, wkB_cons, wkR_nil, wkR_some, wkV_j, wkV_d, wkV_o, wkV_p, frz_d, oK_zs, oK_s, pK_z, pK_s, reduceCtorEq]
              · have hb2 : bJ x s' c = s' := if_neg h2
                simp (implicitDefEqProofs := false) (dsimp := false) only [↓aw_skip, ↓Qblk_n, ↓Qrd_n, ↓back_mk, Nat.reduceAdd, Nat.reduceSub, Nat.reduceMul, evK_go, reduceIte, Nat.reduceEqDiff, Nat.reduceLT]
                refine ⟨⟨q', pre', s'⟩, ⟨P ++ [c], by simp, by rw [hn', hb2]⟩, ?_⟩
                refine Wkn.of [0, 1] [some 0, some 1] ?_
                simp (implicitDefEqProofs := false) (dsimp := false) only [↓vcells_o, List.getD_cons_zero, List.getD_cons_succ, List.set_cons_zero, List.set_cons_succ, List.length_cons, List.length_nil, Bool.and_self, Nat.reduceAdd, Nat.reduceSub, Nat.reduceMul, Nat.zero_add, List.replicate, evK_go, reduceIte, Nat.reduceEqDiff, Nat.reduceLT, and_self, Int.zero_add, List.foldl_cons, List.foldl_nil, slots, wkL_nil, wkL_cons, wkB_nil, wkB_cons, wkR_nil, wkR_some, wkV_j, wkV_d, wkV_o, wkV_p, frz_d, oK_zs, oK_s, pK_z, pK_s, reduceCtorEq]
            · rintro ⟨q', pre', s'⟩ ⟨P, hP, hs'⟩
              obtain rfl : pts (S.getD x default) = P := ofNat_inj hP
              simp only at hs'
              obtain ⟨g1, g2, g3, ⟨u, hu⟩, g5, g6⟩ := hjs x hx.1 _ s hI hx.2 (fun j hj => (hmem x j).1 hj)
              have hbs : bStep S s = ⟨s'.out, s'.todo.drop 1⟩ := by unfold bStep bIn; rw [ex, ← hs']
              rw [← hs', e] at hu
              have htd' : s'.todo = x :: (t ++ u) := hu.symm
              cases q with
              | zero => rw [e] at hr; simp at hr
              | succ q =>
              have hrn : bRun S (q + 1) s = bRun S q (bStep S s) := if_neg hne
              have e3 : ((s'.todo.length : Int) - 1).toNat = (s'.todo.drop 1).length := by rw [List.length_drop]; omega
              have e4 : List.map nD (pre' ++ s'.todo) = List.map nD ((pre' ++ [x]) ++ s'.todo.drop 1) := by rw [htd']; simp
              have hlp : 0 < s'.todo.length := by rw [htd']; simp
              simp (implicitDefEqProofs := false) (dsimp := false) only [slots, ↓optK_some, ↓rwK_mk_, ↓nthK_H, ↓nthH_zero, ↓aw_seq, ↓aw_reg, ↓Qseq_n, ↓Qblk_n, ↓ops_nil, ↓ops_cons, ↓eval_tmp, ↓eval_int, ↓put_some, ↓put_none, ↓iK_i, ↓optI_none, ↓optI_some, ↓ldK_p, ↓sliK_o, ↓op_load, ↓op_slice, ↓op_alloc, ↓op_store, ↓addBox_mk, ↓setBox_mk, ↓st_bx, ↓row_sz, ↓vcells_nl, ↓vcells_o, ↓vone_o, constV_n, ↓st_p, ↓ty3, ↓ty24, ↓sl24, ↓zb24, List.getD_cons_zero, List.getD_cons_succ, List.set_cons_zero, List.set_cons_succ, List.cons_append, List.nil_append, List.length_cons, List.length_nil, List.all_cons, List.all_nil, Bool.true_and, Bool.and_self, Nat.reduceAdd, Nat.reduceSub, Nat.reduceMul, Nat.zero_add, Int.toNat_one, List.replicate, evK_go, reduceIte, Nat.reduceEqDiff, Nat.reduceLT, and_self, true_and, Option.getD_none, Option.getD_some, Int.zero_add, List.foldl_cons, List.foldl_nil, Int.ofNat_le]
              refine ⟨⟨by omega, by omega, by omega⟩, ⟨q, pre' ++ [x], bStep S s⟩, ⟨hI', hC', ?_, ?_, ?_⟩, ?_, ?_⟩
              · show (bStep S s).todo.length + negs (bStep S s).out ≤ q
                omega
              · show q ≤ k
                omega
              · rw [← hrun, hrn]
              · show q < q + 1
                omega
              · refine Wkn.of [0, 2] [some 0, some 1] ?_
                rw [hbs]
                simp (implicitDefEqProofs := false) (dsimp := false) only [e3, e4, List.length_append, List.length_cons, List.length_nil, ↓vcells_o, List.getD_cons_zero, List.getD_cons_succ, List.length_cons, List.length_nil, Bool.and_self, Nat.reduceAdd, Nat.reduceSub, Nat.reduceMul, Nat.zero_add, evK_go, reduceIte, Nat.reduceEqDiff, Nat.reduceLT, and_self, Int.zero_add, slots, wkL_nil, wkL_cons, wkB_nil, wkB_cons, wkR_nil, wkR_some, wkV_j, wkV_d, wkV_o, wkV_p, frz_d, oK_zs, oK_s, pK_z, pK_s, reduceCtorEq]
          · have ht : s.todo = [] := List.eq_nil_of_length_eq_zero (by omega)
            have hq : bRun S q s = s := by cases q with | zero => rfl | succ q => exact if_pos ht
            have hol := hI.len
            have e1 : farL k L f' = s.out := by rw [hfar, ← hrun, hq]
            have e2 : List.take k (List.map (I .i64) s.out) = List.map (I .i64) s.out := List.take_of_length_le (by simp; omega)
            simp (implicitDefEqProofs := false) (dsimp := false) only [e1, e2, erD_0, eval_nilI, ↓optK_some, ↓rwK_mk_, ↓nthK_H, ↓nthH_zero, ↓aw_seq, ↓aw_exit, ↓aw_ret, ↓aw_reg, ↓Qseq_n, ↓Qseq_x, ↓Qblk_x, ↓Qret_r, ↓ops_nil, ↓ops_cons, ↓eval_tmp, ↓put_some, ↓ldK_p, ↓op_assign, ↓op_load, ↓td_d, ↓td_o, ↓ret_2, ↓row_xs, ↓vcells_o, ↓ty24, List.getD_cons_zero, List.getD_cons_succ, List.set_cons_zero, List.set_cons_succ, Nat.reduceAdd, Nat.reduceSub, Nat.reduceMul, evK_go, reduceIte, Nat.reduceEqDiff, Nat.reduceLT, List.drop_zero]
  · simp (implicitDefEqProofs := false) (dsimp := false) only [hb, ↓aw_seq, ↓aw_ret, ↓aw_reg, ↓Qseq_n, ↓Qseq_r, ↓Qret_r, ↓ops_nil, ↓ops_cons, ↓eval_tmp, ↓eval_int, ↓eval_nil, ↓put_some, ↓vK_c, ↓op_assign, ↓op_iface, ↓td_d, ↓td_nl, ↓ret_2, ↓nc108, List.getD_cons_zero, List.getD_cons_succ, List.set_cons_zero, List.set_cons_succ, Bool.true_and, Nat.reduceAdd, Nat.reduceSub, Nat.reduceMul, evK_go, reduceIte, Bool.not_false, Nat.reduceEqDiff, Nat.reduceLT, true_and]
    rfl
theorem wfrom_call (n : Int) (l : List (Int × Int)) (f : Int) (pure : Bool) (σ : St) (dst : Option Tmp) (K : St → Prop) : CallH Tryd.prog 106 [I .i64 n, .l (l.map lnD), I .i64 f] pure σ dst (.mk : Hid K) = OrH ((l.length < 2 ^ 62) ∧ (pure || D.flat (.t [.l ((farR n l f).map (I .i64)), erD (farE n l f)])) = true ∧ evK (σ.put dst (.d (.t [.l ((farR n l f).map (I .i64)), erD (farE n l f)]))) (.mk : Hid K)) (.mk : Hid (CallH Tryd.prog 106 [I .i64 n, .l (l.map lnD), I .i64 f] pure σ dst (.mk : Hid K))) := CallH.eq (wfrom_spec n l f) pure σ dst K
end Go.Proofs

namespace Go.Proofs
open Go.Aw
set_option linter.unusedSimpArgs false
set_option maxRecDepth 10000
set_option maxHeartbeats 2000000
structure PI where
  m : Nat
  pre : List Nat
  g : GS
def outK (has : List Int) (n k : Nat) : List Nat := (List.range k).foldl (fun o j => o.set (has.getD j default).toNat j) (List.replicate n 0)
def pairsR (L R : List (List Int)) : List Nat := if stE L R = 0 then gale L.length (toN L) (toN R) else []
end Go.Proofs

namespace Go.Proofs
open Go.Aw Go.ChangeShapes Go.WideShapes Go.ChangeAt Go.RowKit Go.Deep
set_option linter.unusedVariables false
set_option maxRecDepth 100000
section
variable {H : Type} {enc : TypeId × Value → H} {W : World} {held : Bool}
end
end Go.Proofs

namespace Go.Proofs
open Go.Aw
set_option linter.unusedSimpArgs false
set_option maxRecDepth 10000
def sgL : List (List Int) := [[0, 1], [0, 1]]
def sgR : List (List Int) := [[1, 0], [0, 1]]
end Go.Proofs

namespace Go.Proofs
open Go.Aw
set_option linter.unusedSimpArgs false
set_option maxRecDepth 10000
theorem rbehind_spec (s : List Nat) (j : Nat) (hpre : s.length < 2 ^ 40) : FnR Tryd.prog 94 [.l (s.map nD), I .i64 (j : Int)] 1 ((s ++ [j]).map nD) := by
  refine FnR.go Tryd.func94 rfl rfl Tryd.results94 Tryd.ntmps94 ?_
  simp (implicitDefEqProofs := false) (dsimp := false) only [↓optK_some, ↓rwK_mk_, ↓aw_seq, ↓aw_ret, ↓aw_reg, ↓Qseq_n, ↓ops_nil, ↓ops_cons, ↓eval_tmp, ↓eval_nil, ↓put_some, ↓dK_d, ↓op_move, ↓op_assign, ↓op_append, ↓allD_nil, ↓allD_cons, ↓addRow_mk, ↓app_mk, ↓st_rw, ↓row_sz, ↓row_xs, kill_d, kill_j, kill_nl, kill_o, ↓cells_c, ↓one_i, ↓ap_, ↓ap_nl, ↓ap_o, ↓src_l, ↓bs_, ↓op_bs, ↓bsL_f, ↓stored_mk, ↓sl_nil, ↓sl_cons, ↓sT_move, ↓sT_assign, ↓sT_bs, ↓sT_call, ↓vsz_int, ↓inO_1, ↓fm_nil, ↓fm_cons, ↓Qrow_r, ↓rowK_o, ↓ty3, ↓zb3, ↓sl24, List.getD_cons_zero, List.getD_cons_succ, List.set_cons_zero, List.set_cons_succ, List.cons_append, List.nil_append, List.map_cons, List.map_nil, List.length_cons, List.length_nil, List.length_map, List.all_cons, List.all_nil, Bool.true_and, Bool.and_self, Bool.or_false, Nat.reduceAdd, Nat.reduceSub, Nat.reduceMul, Nat.zero_add, List.replicate, evK_go, reduceIte, Nat.reduceEqDiff, Nat.reduceLT, and_self, true_and, Int.zero_add, List.drop_zero]
  refine ⟨fun y hy => ?_, ⟨by omega, by omega⟩, by decide, ⟨fun _ => trivial, by omega, by omega⟩, ?_⟩
  · obtain ⟨z, _, rfl⟩ := List.mem_map.1 hy
    exact ⟨rfl, rfl⟩
  · rw [List.take_of_length_le (by simp)]
    simp [nD]
theorem rbehind_callD (s : List Nat) (j : Nat) (pure : Bool) (σ : St) (dst : Option Tmp) (K : St → Prop) : CallH Tryd.prog 94 [.l (s.map nD), I .i64 (j : Int)] pure σ dst (.mk : Hid K) = OrH ((s.length < 2 ^ 40) ∧ (pure || D.flat (.l ((s ++ [j]).map nD))) = true ∧ evK (σ.put dst (.d (.l ((s ++ [j]).map nD)))) (.mk : Hid K)) (.mk : Hid (CallH Tryd.prog 94 [.l (s.map nD), I .i64 (j : Int)] pure σ dst (.mk : Hid K))) := CallH.eq (fun h => ((fun h => rbehind_spec s j h) h).data) pure σ dst K
end Go.Proofs

namespace Go.Proofs
open Go.Aw
set_option linter.unusedSimpArgs false
set_option maxRecDepth 10000
end Go.Proofs

namespace Go.Proofs
open Go.Aw
set_option linter.unusedSimpArgs false
set_option maxRecDepth 10000
set_option maxHeartbeats 1000000
end Go.Proofs

namespace Go.Proofs
open Go.Aw
set_option linter.unusedSimpArgs false
set_option maxRecDepth 10000
set_option maxHeartbeats 2000000
theorem goes_nat {n : Int} {l : List (Int × Int)} (ok : Ok n l) (i j : Nat) : (((i : Int), (j : Int)) ∈ l ↔ (i, j) ∈ natL l) := by
  unfold natL
  rw [List.mem_map]
  constructor
  · intro h; exact ⟨_, h, rfl⟩
  · rintro ⟨⟨a, b⟩, h1, h2⟩
    have := ok.rng _ h1
    simp (implicitDefEqProofs := false) (dsimp := false) only [natP, Prod.mk.injEq] at h2 this
    have e1 : a = (i : Int) := by omega
    have e2 : b = (j : Int) := by omega
    rw [← e1, ← e2]; exact h1
end Go.Proofs

namespace Go.Proofs
open Go.Aw
set_option linter.unusedSimpArgs false
set_option maxRecDepth 10000
set_option maxHeartbeats 2000000
end Go.Proofs

namespace Go.Proofs
open Go.Aw
set_option linter.unusedSimpArgs false
set_option maxRecDepth 10000
set_option maxHeartbeats 2000000
end Go.Proofs

namespace Go.Proofs
open Go.Aw
set_option linter.unusedSimpArgs false
set_option maxRecDepth 10000
set_option maxHeartbeats 2000000
end Go.Proofs

namespace Go.Proofs
open Go.Aw
set_option linter.unusedSimpArgs false
set_option maxRecDepth 10000
set_option maxHeartbeats 2000000
def rowC (C : Nat → Nat → Bool) (a b : Nat) : List Nat := (List.range b).filter (C a)
def allC (C : Nat → Nat → Bool) (n a : Nat) : List (List Int) := (List.range a).map fun x => (rowC C x n).map Int.ofNat
end Go.Proofs

namespace Go.Proofs
open Go.Aw
set_option linter.unusedSimpArgs false
set_option maxRecDepth 10000
set_option maxHeartbeats 4000000
theorem natL_get {n : Int} {l : List (Int × Int)} (ok : Ok n l) {k : Nat} (hk : k < l.length) : l.getD k default = ((((natL l).getD k default).1 : Int), (((natL l).getD k default).2 : Int)) := by
  have hm := ok.rng _ (getD_mem hk)
  have e : (natL l).getD k default = natP (l.getD k default) := by
    unfold natL
    rw [List.getD_eq_getElem?_getD, List.getD_eq_getElem?_getD, List.getElem?_map, List.getElem?_eq_getElem hk]; rfl
  rw [e]
  unfold natP
  exact Prod.ext (by simp only; omega) (by simp only; omega)
end Go.Proofs

namespace Go.Proofs
open Go.Aw
set_option linter.unusedSimpArgs false
set_option maxRecDepth 10000
def halfR (n : Int) (l : List (Int × Int)) : List Int := if chk n l = 0 then (if halfOk n.toNat (natL l) = true then halfL n.toNat (natL l) else []) else []
def halfE (n : Int) (l : List (Int × Int)) : Int := if chk n l = 0 then (if halfOk n.toNat (natL l) = true then 0 else 5) else chk n l
def mixF {α : Type} (f g : Nat → α) (n q : Nat) : List α := (List.range n).map fun j => if j < q then f j else g j
theorem mixF_len {α : Type} (f g : Nat → α) (n q : Nat) : (mixF f g n q).length = n := by simp [mixF]
theorem mixF_set {α : Type} (f g : Nat → α) {n q : Nat} (_h : q < n) : (mixF f g n q).set q (f q) = mixF f g n (q + 1) := by
  refine List.ext_getElem (by simp [mixF]) fun i h1 h2 => ?_
  rw [List.getElem_set]
  simp (implicitDefEqProofs := false) (dsimp := false) only [mixF, List.getElem_map, List.getElem_range]
  split
  · rename_i e; subst e; rw [if_pos (by omega)]
  · rename_i e
    by_cases h : i < q
    · rw [if_pos h, if_pos (by omega)]
    · rw [if_neg h, if_neg (by omega)]
theorem mixF_zero {α : Type} (f : Nat → α) (x : α) (n : Nat) : mixF f (fun _ => x) n 0 = List.replicate n x := by
  unfold mixF
  simp [List.map_const']
theorem mixF_all {α : Type} (f g : Nat → α) (n : Nat) : mixF f g n n = (List.range n).map f := by
  unfold mixF
  refine List.map_congr_left fun i hi => ?_
  rw [if_pos (List.mem_range.1 hi)]
theorem far_ok {n : Int} {l : List (Int × Int)} (h : chk n l = 0) {f : Nat} (hf : f < n.toNat) : farR n l (f : Int) = farL n.toNat (natL l) f ∧ farE n l (f : Int) = 0 := by
  have ok := chk_ok h
  have e := ok.n0
  have hb : inB (f : Int) 0 (n - 1) = true := inW_iff.2 ⟨by omega, by omega⟩
  unfold farR farE
  rw [if_pos h, if_pos h, if_pos hb, if_pos hb]
  exact ⟨rfl, rfl⟩
theorem hpart_spec (n : Int) (l : List (Int × Int)) (hpre : l.length < 2 ^ 62) : FnD Tryd.prog 71 [I .i64 n, .l (l.map lnD)] (.t [.l ((halfR n l).map (I .i64)), erD (halfE n l)]) := by
  refine FnD.go Tryd.func71 rfl rfl Tryd.results71 Tryd.ntmps71 ?_
  simp (implicitDefEqProofs := false) (dsimp := false) only [↓aw_seq, ↓aw_reg, ↓Qseq_n, ↓ops_nil, ↓ops_cons, ↓eval_tmp, ↓eval_nil, ↓eval_func, ↓put_some, ↓op_move, ↓op_assign, ↓op_call, isD_d, ↓fnK_f, ↓call_H, ↓callK_H, ↓allT_nil, ↓allT_cons, ↓td_d, List.getD_cons_zero, List.getD_cons_succ, List.set_cons_zero, List.set_cons_succ, List.cons_append, List.nil_append, List.append_nil, List.map_cons, List.map_nil, List.length_cons, List.length_nil, List.all_cons, List.all_nil, Bool.and_self, Nat.reduceAdd, Nat.reduceSub, Nat.reduceMul, Nat.zero_add, List.replicate, evK_go, reduceIte, Nat.reduceEqDiff, Nat.reduceLT, and_self, Int.zero_add]
  simp (implicitDefEqProofs := false) (dsimp := false) only [gcheck_call, eval_nilI, ↓er_neq, er_flat, ↓cdK_not, ↓aw_cond, ↓aw_seq, ↓aw_reg, ↓Qseq_n, ↓ops_nil, ↓ops_cons, ↓eval_tmp, ↓put_some, ↓bK_b, ↓op_move, ↓op_assign, ↓op_bin, List.getD_cons_zero, List.getD_cons_succ, List.set_cons_zero, List.set_cons_succ, Bool.true_and, Bool.or_true, Nat.reduceAdd, Nat.reduceSub, Nat.reduceMul, evK_go, reduceIte, Nat.reduceEqDiff, Nat.reduceLT, true_and]
  refine OrH.l (OrH.l ⟨hpre, ?_⟩)
  refine cdK_dec (fun hc => ?_) (fun hc => ?_)
  rotate_left
  · simp (implicitDefEqProofs := false) (dsimp := false) only [halfR, halfE, hc, ↓aw_seq, ↓aw_ret, ↓aw_reg, ↓Qseq_n, ↓Qseq_r, ↓Qret_r, ↓ops_nil, ↓ops_cons, ↓eval_tmp, ↓eval_nil, ↓put_some, ↓op_move, ↓op_assign, ↓td_d, ↓td_nl, ↓ret_2, List.getD_cons_zero, List.getD_cons_succ, List.set_cons_zero, List.set_cons_succ, List.map_nil, Nat.reduceAdd, Nat.reduceSub, Nat.reduceMul, evK_go, reduceIte, decide_false, Bool.not_false, Nat.reduceEqDiff, Nat.reduceLT]
  have ok := chk_ok hc
  rw [show halfR n l = (if halfOk n.toNat (natL l) = true then halfL n.toNat (natL l) else []) from if_pos hc, show halfE n l = (if halfOk n.toNat (natL l) = true then 0 else 5) from if_pos hc]
  have hR : rootR n l = (List.range n.toNat).map (rootP n.toNat (natL l)) := if_pos hc
  simp (implicitDefEqProofs := false) (dsimp := false) only [wparts_call, hpre, hc, hR, eval_nilI, ↓er_neq, ↓cdK_false, ↓nthK_H, ↓nthH_zero, ↓nthH_succ, ↓aw_cond, ↓aw_seq, ↓aw_block, ↓aw_skip, ↓aw_loop, ↓aw_reg, ↓Qseq_n, ↓ops_nil, ↓ops_cons, ↓eval_tmp, ↓eval_int, ↓eval_func, ↓put_some, ↓bK_b, ↓iK_i, ↓dK_d, ↓lenK_l, ↓tK_t, ↓op_move, ↓op_assign, ↓op_bin, ↓op_extract, ↓op_len, ↓op_call, ↓op_make, isD_d, ↓fnK_f, ↓call_H, ↓callK_H, ↓allT_nil, ↓allT_cons, ↓td_d, ↓addRow_mk, ↓st_rw, ↓cells_c, ↓one_i, constV_i, ↓mk_, ↓vsz_int, ↓ty3, ↓zb3, ↓sl24, List.getD_cons_zero, List.getD_cons_succ, List.set_cons_zero, List.set_cons_succ, List.nil_append, List.append_nil, List.length_cons, List.length_nil, List.length_map, List.all_cons, List.all_nil, Bool.and_true, Bool.true_and, Bool.and_self, Bool.true_or, Nat.reduceAdd, Nat.reduceSub, Nat.reduceMul, Nat.zero_add, evK_go, reduceIte, decide_true, Bool.not_true, Nat.reduceEqDiff, Nat.reduceLT, and_self, true_and, and_true, Int.zero_add]
  (repeat refine OrH.l ?_)
  have h8 := ok.hi
  have e0 := ok.n0
  have hlo := ok.lo
  have hrng := ok.rng
  have hcr := ok.cr
  have hll := ok.len
  have hfar := fun f hf => far_ok hc (f := f) hf
  have hroot := fun i hi => root_spec hcr.1 hcr.2.2 (i := i) hi
  have hfs := fun f hf => (far_spec hcr.1 hcr.2.2 (f := f) hf)
  refine ⟨⟨by omega, by omega, by decide⟩, ?_⟩
  have hHd : halfL n.toNat (natL l) = (List.range n.toNat).map fun i => (farL n.toNat (natL l) (rootP n.toNat (natL l) i)).getD i default % 2 := rfl
  clear hR ok
  generalize n.toNat = m at *
  obtain ⟨R, hRd⟩ : ∃ R, R = (List.range m).map (rootP m (natL l)) := ⟨_, rfl⟩
  have hRl : R.length = m := by rw [hRd]; simp
  have hRg : ∀ k, k < m → R.getD k default = rootP m (natL l) k := fun k hk => by
    rw [hRd, List.getD_eq_getElem?_getD, List.getElem?_map, List.getElem?_range hk]; rfl
  rw [← hRd]
  clear hRd
  obtain ⟨H, hH⟩ : ∃ H : Nat → Int, H = fun i => (farL m (natL l) (rootP m (natL l) i)).getD i default % 2 := ⟨_, rfl⟩
  have hHk : ∀ k, H k = (farL m (natL l) (rootP m (natL l) k)).getD k default % 2 := fun k => by rw [hH]
  refine loopW (fun k : Nat => { tm := slots 79 [(0, .d (I .i64 n)), (1, .d (.l (l.map lnD))), (9, .o 0 0 m), (33, .d (.l (R.map nD))), (34, .d (I .i64 (m : Int))), (35, .d (I .i64 k))], bx := [], rw := [some ⟨1, (mixF H (fun _ => 0) m k).map (I .i64)⟩] })
    (fun k => k ≤ m) (fun k => m - k) 0 (by simp) ?_ ?_
  · refine Wkn.of [] [some 0] ?_
    simp (implicitDefEqProofs := false) (dsimp := false) only [mixF_zero, List.map_replicate, List.length_range, List.getD_cons_zero, List.set_cons_zero, List.set_cons_succ, Bool.and_self, Nat.reduceAdd, Nat.reduceSub, Nat.reduceMul, List.replicate, evK_go, reduceIte, Nat.reduceEqDiff, Nat.reduceLT, and_self, List.foldl_cons, List.foldl_nil, Int.cast_ofNat_Int, slots, wkL_nil, wkL_cons, wkB_nil, wkR_nil, wkR_some, wkV_j, wkV_d, wkV_o, frz_d, oK_zs, reduceCtorEq]
  · intro k hk
    have hml := mixF_len H (fun _ => 0) m k
    simp (implicitDefEqProofs := false) (dsimp := false) only [slots, ↓aw_cond, ↓aw_seq, ↓aw_reg, ↓Qseq_n, ↓ops_nil, ↓ops_cons, ↓eval_tmp, ↓put_some, ↓bK_b, ↓binE_i, ↓bi_lss, ↓op_bin, List.getD_cons_zero, List.getD_cons_succ, List.set_cons_zero, List.set_cons_succ, Nat.reduceAdd, Nat.reduceSub, Nat.reduceMul, List.replicate, evK_go, reduceIte, Nat.reduceEqDiff, Nat.reduceLT, List.foldl_cons, List.foldl_nil, Int.ofNat_lt]
    refine cdK_dec (fun h => ?_) (fun h => ?_)
    · have hkR : k < R.length := by omega
      obtain ⟨hr1, hr2⟩ := hroot k h
      have hrm : rootP m (natL l) k < m := by omega
      obtain ⟨f1, f2⟩ := hfar _ hrm
      obtain ⟨f3, f4⟩ := hfs _ hrm
      obtain ⟨z, hz, _, hzm⟩ := f4 k hr2
      have hHk := hHk k
      have hms := mixF_set H (fun _ => 0) h
      simp (implicitDefEqProofs := false) (dsimp := false) only [hkR, hRg k h, nD, wfrom_call, hpre, f1, f2, eval_nilI, ↓er_neq, ↓cdK_false, ↓optK_some, ↓rwK_mk_, ↓atK_H, ↓atH_map, ↓nthK_H, ↓nthH_zero, ↓nthH_succ, ↓aw_cond, ↓aw_seq, ↓aw_block, ↓aw_skip, ↓aw_reg, ↓Qseq_n, ↓Qblk_n, ↓ops_nil, ↓ops_cons, ↓eval_tmp, ↓eval_int, ↓eval_func, ↓put_some, ↓put_none, ↓bK_b, ↓iK_i, ↓dK_d, ↓tK_t, ↓binE_i, ↓bi_add, ↓bi_rem, ↓in_i64, ↓ldK_q, ↓iaK_l, ↓iaK_o, ↓op_move, ↓op_assign, ↓op_load, ↓op_bin, ↓op_ia, ↓op_extract, ↓op_call, ↓op_store, isD_d, ↓fnK_f, ↓call_H, ↓callK_H, ↓allT_nil, ↓allT_cons, ↓td_d, ↓setRow_mk, ↓row_sz, ↓row_xs, ↓cells_c, ↓one_i, ↓st_e, ↓hd_cons, ↓ty3, ↓sl24, List.getD_cons_zero, List.getD_cons_succ, List.set_cons_zero, List.set_cons_succ, List.append_nil, List.length_cons, List.length_nil, List.all_cons, List.all_nil, Bool.true_and, Bool.and_self, Bool.true_or, Nat.reduceAdd, Nat.reduceSub, Nat.reduceMul, Nat.zero_add, Int.toNat_natCast, evK_go, reduceIte, decide_true, Bool.not_true, Nat.reduceEqDiff, Nat.reduceLT, and_self, true_and, Int.zero_add, Int.ofNat_lt, Int.natCast_nonneg]
      (repeat refine OrH.l ?_)
      refine ⟨by omega, ⟨by omega, by decide⟩, h, by omega, k + 1, by omega, by omega, ?_⟩
      refine Wkn.of [] [some 0] ?_
      simp (implicitDefEqProofs := false) (dsimp := false) only [← hms, ← hHk, List.map_set, List.getD_cons_zero, List.set_cons_zero, List.set_cons_succ, Bool.and_self, Nat.reduceAdd, Nat.reduceSub, Nat.reduceMul, List.replicate, evK_go, reduceIte, Nat.reduceEqDiff, Nat.reduceLT, and_self, List.foldl_cons, List.foldl_nil, Int.cast_ofNat_Int, Int.natCast_add, slots, wkL_nil, wkL_cons, wkB_nil, wkR_nil, wkR_some, wkV_j, wkV_d, wkV_o, frz_d, oK_zs, reduceCtorEq]
    · obtain rfl : k = m := by omega
      have hG : mixF H (fun _ => 0) k k = halfL k (natL l) := by rw [mixF_all, hHd, hH]
      have hGl : (halfL k (natL l)).length = k := by rw [hHd]; simp
      have hok : halfOk k (natL l) = (natL l).all fun p => !decide ((halfL k (natL l)).getD p.1 default = (halfL k (natL l)).getD p.2 default) := rfl
      have hgood := hcr.2.2
      rw [hG]
      simp (implicitDefEqProofs := false) (dsimp := false) only [↓aw_seq, ↓aw_block, ↓aw_exit, ↓aw_loop, ↓aw_reg, ↓Qseq_n, ↓Qseq_x, ↓Qblk_x, ↓ops_nil, ↓ops_cons, ↓eval_tmp, ↓eval_int, ↓put_some, ↓lenK_l, ↓op_move, ↓op_len, ↓sl22, List.getD_cons_zero, List.getD_cons_succ, List.set_cons_zero, List.set_cons_succ, List.length_map, Nat.reduceAdd, Nat.reduceSub, Nat.reduceMul, evK_go, reduceIte, decide_false, Nat.reduceEqDiff, Nat.reduceLT, Nat.lt_irrefl]
      generalize halfL k (natL l) = G at *
      generalize halfOk k (natL l) = B at *
      refine loopW (fun i : Nat => { tm := slots 79 [(9, .o 0 0 k), (59, .d (.l (l.map lnD))), (60, .d (I .i64 (l.length : Int))), (61, .d (I .i64 i))], bx := [], rw := [some ⟨1, G.map (I .i64)⟩] })
        (fun i => i ≤ l.length ∧ ((natL l).take i).all (fun p => !decide (G.getD p.1 default = G.getD p.2 default)) = true) (fun i => l.length - i) 0 (by simp) ?_ ?_
      · refine Wkn.of [] [some 0] ?_
        simp (implicitDefEqProofs := false) (dsimp := false) only [List.getD_cons_zero, List.set_cons_zero, List.set_cons_succ, Bool.and_self, Nat.reduceAdd, Nat.reduceSub, Nat.reduceMul, List.replicate, evK_go, reduceIte, Nat.reduceEqDiff, Nat.reduceLT, and_self, List.foldl_cons, List.foldl_nil, Int.cast_ofNat_Int, slots, wkL_nil, wkL_cons, wkB_nil, wkR_nil, wkR_some, wkV_j, wkV_d, wkV_o, frz_d, oK_zs, reduceCtorEq]
      · rintro i ⟨hi, hall⟩
        simp (implicitDefEqProofs := false) (dsimp := false) only [slots, ↓aw_cond, ↓aw_seq, ↓aw_reg, ↓Qseq_n, ↓ops_nil, ↓ops_cons, ↓eval_tmp, ↓put_some, ↓bK_b, ↓binE_i, ↓bi_lss, ↓op_bin, List.getD_cons_zero, List.getD_cons_succ, List.set_cons_zero, List.set_cons_succ, Nat.reduceAdd, Nat.reduceSub, Nat.reduceMul, List.replicate, evK_go, reduceIte, Nat.reduceEqDiff, Nat.reduceLT, List.foldl_cons, List.foldl_nil, Int.ofNat_lt]
        refine cdK_dec (fun h1 => ?_) (fun h1 => ?_)
        · have hmemi : l.getD i default ∈ l := getD_mem h1
          have hnl : i < (natL l).length := by rw [natL_len]; exact h1
          have hni : (natL l).getD i default = ((l.getD i default).1.toNat, (l.getD i default).2.toNat) := by
            unfold natL
            rw [List.getD_eq_getElem?_getD, List.getElem?_map, List.getD_eq_getElem?_getD, List.getElem?_eq_getElem h1]; rfl
          have hgi := hgood _ (hni ▸ getD_mem hnl)
          have hri := hrng _ hmemi
          have hts := take_succ_getD hnl
          rw [hni] at hts
          simp only at hgi
          simp (implicitDefEqProofs := false) (dsimp := false) only [h1, lnD, ↓optK_some, ↓rwK_mk_, ↓atK_H, ↓atH_map, ↓nthK_H, ↓nthH_zero, ↓nthH_succ, ↓aw_cond, ↓aw_seq, ↓aw_block, ↓aw_skip, ↓aw_reg, ↓aw_draw, ↓Qseq_n, ↓ops_nil, ↓ops_cons, ↓eval_tmp, ↓put_some, ↓put_none, ↓bK_b, ↓iK_i, ↓ev_move, ↓ev_load, ↓ev_bin, ↓ev_fa, ↓ev_ia, ↓binE_i, ↓bi_eql, ↓ldK_q, ↓ldK_p, ↓ldK_e, ↓faK_p, ↓iaK_l, ↓iaK_o, ↓op_load, ↓op_ia, ↓op_alloc, ↓op_store, ↓draw_H, ↓h_nil, ↓h_cons, ↓ldH_n, ↓q_move, ↓q_load, ↓q_bin, ↓q_fa, ↓q_ia, ↓il_move, ↓il_load, ↓il_bin, ↓il_fa, ↓il_ia, ↓addBox_mk, ↓setBox_mk, ↓st_bx, ↓row_sz, ↓row_xs, ↓cells_c, ↓cells_s, ↓vcells_s, ↓one_i, ↓vone_d, constV_a, ↓st_p, ↓ty3, ↓sl22, ↓sl24, ↓ty41, ↓zb41, ↓fd41_0, ↓fd41_1, List.getD_cons_zero, List.getD_cons_succ, List.set_cons_zero, List.set_cons_succ, List.nil_append, List.map_cons, List.map_nil, List.length_cons, List.length_nil, List.all_cons, List.all_nil, Bool.true_and, Bool.and_self, Nat.reduceAdd, Nat.reduceSub, Nat.reduceMul, Nat.zero_add, Nat.add_zero, Int.toNat_natCast, evK_go, reduceIte, decide_true, Nat.reduceEqDiff, Nat.reduceLT, and_self, true_and, Int.zero_add, List.take_succ_cons, List.take_nil, Int.natCast_nonneg]
          refine ⟨by decide, OrH.l ⟨DrawH.of follows_mixed (by kernel_rfl), ⟨hri.1, by omega⟩, by omega, ⟨hri.2, by omega⟩, by omega, cdK_dec (fun h2 => ?_) (fun h2 => ?_)⟩⟩
          · have hB : B = false := by
              rw [hok, ← Bool.not_eq_true]
              intro hq
              have h3 := List.all_eq_true.1 hq _ (getD_mem hnl)
              rw [hni] at h3
              have h3 : (!decide (G.getD (l.getD i default).1.toNat default = G.getD (l.getD i default).2.toNat default)) = true := h3
              rw [decide_eq_true h2] at h3
              cases h3
            rw [hB]
            simp (implicitDefEqProofs := false) (dsimp := false) only [nc108, ↓aw_seq, ↓aw_ret, ↓aw_reg, ↓Qseq_n, ↓Qseq_r, ↓Qblk_r, ↓Qret_r, ↓ops_nil, ↓ops_cons, ↓eval_tmp, ↓eval_int, ↓eval_nil, ↓put_some, ↓vK_c, ↓op_assign, ↓op_iface, ↓td_d, ↓td_nl, ↓ret_2, ↓nc108, List.getD_cons_zero, List.getD_cons_succ, List.set_cons_zero, List.set_cons_succ, Bool.true_and, Nat.reduceAdd, Nat.reduceSub, Nat.reduceMul, evK_go, reduceIte, Nat.reduceEqDiff, Nat.reduceLT, true_and]
            rfl
          · simp (implicitDefEqProofs := false) (dsimp := false) only [↓aw_skip, ↓aw_reg, ↓Qseq_n, ↓Qblk_n, ↓ops_nil, ↓ops_cons, ↓eval_tmp, ↓eval_int, ↓put_some, ↓binE_i, ↓bi_add, ↓in_i64, ↓op_move, ↓op_bin, List.getD_cons_zero, List.getD_cons_succ, List.set_cons_zero, List.set_cons_succ, Nat.reduceAdd, Nat.reduceSub, Nat.reduceMul, evK_go, reduceIte, Nat.reduceEqDiff, Nat.reduceLT]
            refine ⟨by omega, i + 1, ⟨by omega, ?_⟩, by omega, ?_⟩
            · rw [hts, List.all_append, hall, List.all_cons, List.all_nil, Bool.and_true, Bool.true_and]
              show (!decide (G.getD (l.getD i default).1.toNat default = G.getD (l.getD i default).2.toNat default)) = true
              rw [decide_eq_false h2]; rfl
            · refine Wkn.of [] [some 0] ?_
              simp (implicitDefEqProofs := false) (dsimp := false) only [List.getD_cons_zero, List.set_cons_zero, List.set_cons_succ, Bool.and_self, Nat.reduceAdd, Nat.reduceSub, Nat.reduceMul, List.replicate, evK_go, reduceIte, Nat.reduceEqDiff, Nat.reduceLT, and_self, List.foldl_cons, List.foldl_nil, Int.cast_ofNat_Int, Int.natCast_add, slots, wkL_nil, wkL_cons, wkB_nil, wkR_nil, wkR_some, wkV_j, wkV_d, wkV_o, frz_d, oK_zs, reduceCtorEq]
        · obtain rfl : i = l.length := by omega
          have hB : B = true := by
            rw [hok, ← hall]
            congr 1
            exact (List.take_of_length_le (by rw [natL_len]; exact Nat.le_refl _)).symm
          have e2 : List.take k (List.map (I .i64) G) = List.map (I .i64) G := List.take_of_length_le (by simp; omega)
          rw [hB]
          simp (implicitDefEqProofs := false) (dsimp := false) only [e2, eval_nilI, ↓optK_some, ↓rwK_mk_, ↓aw_seq, ↓aw_exit, ↓aw_ret, ↓aw_reg, ↓Qseq_n, ↓Qseq_x, ↓Qblk_x, ↓Qret_r, ↓ops_nil, ↓ops_cons, ↓eval_tmp, ↓put_some, ↓op_move, ↓op_assign, ↓td_d, ↓td_o, ↓ret_2, ↓row_xs, List.getD_cons_zero, List.getD_cons_succ, List.set_cons_zero, List.set_cons_succ, Nat.reduceAdd, Nat.reduceSub, Nat.reduceMul, evK_go, reduceIte, decide_false, Nat.reduceEqDiff, Nat.reduceLT, Nat.lt_irrefl, List.drop_zero]
          rfl
theorem hpart_call (n : Int) (l : List (Int × Int)) (pure : Bool) (σ : St) (dst : Option Tmp) (K : St → Prop) : CallH Tryd.prog 71 [I .i64 n, .l (l.map lnD)] pure σ dst (.mk : Hid K) = OrH ((l.length < 2 ^ 62) ∧ (pure || D.flat (.t [.l ((halfR n l).map (I .i64)), erD (halfE n l)])) = true ∧ evK (σ.put dst (.d (.t [.l ((halfR n l).map (I .i64)), erD (halfE n l)]))) (.mk : Hid K)) (.mk : Hid (CallH Tryd.prog 71 [I .i64 n, .l (l.map lnD)] pure σ dst (.mk : Hid K))) := CallH.eq (hpart_spec n l) pure σ dst K
end Go.Proofs

namespace Go.Proofs
open Go.Aw
set_option linter.unusedSimpArgs false
set_option maxRecDepth 10000
def oddR (n : Int) (l : List (Int × Int)) : Nat := if chk n l = 0 then oddN n.toNat (outS n.toNat (symL (natL l))) else 0
def odK (S : List Nat) (a b : Nat) : Nat → Nat
  | 0 => b
  | k + 1 => oddK S a (odK S a b k) (k + 1)
def odA (S : List Nat) (n : Nat) : Nat → Nat
  | 0 => 0
  | a + 1 => odK S a (odA S n a) n
theorem odK_eq (S : List Nat) (a b k : Nat) : odK S a b k = (List.range k).foldl (fun b k => oddK S a b (k + 1)) b := by
  induction k with
  | zero => rfl
  | succ k ih => rw [List.range_succ, List.foldl_append, ← ih]; rfl
theorem odA_eq (S : List Nat) (n a : Nat) : odA S n a = (List.range a).foldl (oddA S n) 0 := by
  induction a with
  | zero => rfl
  | succ a ih =>
    rw [List.range_succ, List.foldl_append, ← ih]
    show odK S a _ n = oddA S n _ a
    rw [odK_eq]; rfl
theorem odK_le (S : List Nat) (a b m : Nat) (hb : b ≤ m) : ∀ k, k ≤ m → odK S a b k ≤ m := by
  intro k
  induction k with
  | zero => intro _; exact hb
  | succ k ih =>
    intro h
    have := ih (by omega)
    show oddK S a (odK S a b k) (k + 1) ≤ m
    unfold oddK
    split <;> omega
theorem odA_le (S : List Nat) (m : Nat) : ∀ a, odA S m a ≤ m := by
  intro a
  induction a with
  | zero => exact Nat.zero_le _
  | succ a ih => exact odK_le S a _ m ih m (Nat.le_refl _)
theorem hodd_spec (n : Int) (l : List (Int × Int)) (hpre : l.length < 2 ^ 62) : FnD Tryd.prog 72 [I .i64 n, .l (l.map lnD)] (.t [I .i64 (oddR n l : Nat), erD (chk n l)]) := by
  refine FnD.go Tryd.func72 rfl rfl Tryd.results72 Tryd.ntmps72 ?_
  simp (implicitDefEqProofs := false) (dsimp := false) only [↓aw_seq, ↓aw_reg, ↓Qseq_n, ↓ops_nil, ↓ops_cons, ↓eval_tmp, ↓eval_int, ↓eval_func, ↓put_some, ↓op_move, ↓op_assign, ↓op_call, isD_d, ↓fnK_f, ↓call_H, ↓callK_H, ↓allT_nil, ↓allT_cons, ↓td_d, List.getD_cons_zero, List.getD_cons_succ, List.set_cons_zero, List.set_cons_succ, List.cons_append, List.nil_append, List.append_nil, List.map_cons, List.map_nil, List.length_cons, List.length_nil, List.all_cons, List.all_nil, Bool.and_self, Nat.reduceAdd, Nat.reduceSub, Nat.reduceMul, Nat.zero_add, List.replicate, evK_go, reduceIte, Nat.reduceEqDiff, Nat.reduceLT, and_self, Int.zero_add]
  simp (implicitDefEqProofs := false) (dsimp := false) only [gcheck_call, eval_nilI, ↓er_neq, er_flat, ↓cdK_not, ↓aw_cond, ↓aw_seq, ↓aw_reg, ↓Qseq_n, ↓ops_nil, ↓ops_cons, ↓eval_tmp, ↓put_some, ↓bK_b, ↓op_move, ↓op_assign, ↓op_bin, List.getD_cons_zero, List.getD_cons_succ, List.set_cons_zero, List.set_cons_succ, Bool.true_and, Bool.or_true, Nat.reduceAdd, Nat.reduceSub, Nat.reduceMul, evK_go, reduceIte, Nat.reduceEqDiff, Nat.reduceLT, true_and]
  refine OrH.l (OrH.l ⟨hpre, ?_⟩)
  refine cdK_dec (fun hc => ?_) (fun hc => ?_)
  rotate_left
  · have e1 : oddR n l = 0 := if_neg hc
    simp (implicitDefEqProofs := false) (dsimp := false) only [e1, ↓aw_seq, ↓aw_ret, ↓aw_reg, ↓Qseq_n, ↓Qseq_r, ↓Qret_r, ↓ops_nil, ↓ops_cons, ↓eval_tmp, ↓eval_int, ↓put_some, ↓op_move, ↓op_assign, ↓td_d, ↓ret_2, List.getD_cons_zero, List.getD_cons_succ, List.set_cons_zero, List.set_cons_succ, Nat.reduceAdd, Nat.reduceSub, Nat.reduceMul, evK_go, reduceIte, Nat.reduceEqDiff, Nat.reduceLT, Int.cast_ofNat_Int]
  have ok := chk_ok hc
  rw [show oddR n l = oddN n.toNat (outS n.toNat (symL (natL l))) from if_pos hc, lnD_nat ok.rng, hc]
  have hcr := ok.cr
  have h8 := ok.hi
  have e0 := ok.n0
  clear ok hc hpre
  generalize n.toNat = m at *
  subst e0
  generalize natL l = L at *
  have hsg := symL_good hcr.2.2
  have hSl := outS_len m (symL L)
  have hSt := outS_lt' (n := m) (by omega) hsg
  have hSb : ∀ a, a < m → ∀ k j, (nowS (outS m (symL L)) a k).testBit j = true → j < m := fun a ha k j h => by
    have h := (nowS_bit (n := m) (by omega) hsg ha k j).1 h
    exact h.path.lt hsg ha
  simp (implicitDefEqProofs := false) (dsimp := false) only [beside_callD, hcr, ↓aw_seq, ↓aw_block, ↓aw_skip, ↓aw_loop, ↓aw_reg, ↓Qseq_n, ↓ops_nil, ↓ops_cons, ↓eval_tmp, ↓eval_int, ↓eval_func, ↓put_some, ↓put_none, ↓op_move, ↓op_assign, ↓op_call, ↓op_alloc, ↓op_store, isD_d, ↓fnK_f, ↓call_H, ↓callK_H, ↓allT_nil, ↓allT_cons, ↓td_d, ↓addBox_mk, ↓setBox_mk, ↓st_bx, ↓vcells_l, ↓vcells_nl, ↓one_l, ↓vone_d, constV_n, ↓st_p, ↓ty99, ↓zb99, List.getD_cons_zero, List.getD_cons_succ, List.set_cons_zero, List.set_cons_succ, List.nil_append, List.append_nil, List.length_cons, List.length_nil, List.all_cons, List.all_nil, Bool.true_and, Bool.and_self, Bool.true_or, Nat.reduceAdd, Nat.reduceSub, Nat.reduceMul, Nat.zero_add, evK_go, reduceIte, decide_true, Bool.not_true, Nat.reduceEqDiff, Nat.reduceLT, and_self, true_and, Int.zero_add]
  (repeat refine OrH.l ?_)
  generalize outS m (symL L) = S at *
  have hodn : oddN m S = odA S m m := (odA_eq S m m).symm
  refine loopW (fun a : Nat => { tm := slots 64 [(0, .d (I .i64 (m : Int))), (7, .p 0 0), (8, .d (I .i64 (odA S m a : Nat))), (23, .d (I .i64 (m : Int))), (24, .d (I .i64 a))], bx := [.d (.l (S.map U))], rw := [] })
    (fun a => a ≤ m) (fun a => m - a) 0 (by simp) ?_ ?_
  · refine Wkn.of [0] [] ?_
    simp (implicitDefEqProofs := false) (dsimp := false) only [odA, ↓vcells_l, List.getD_cons_zero, List.set_cons_zero, List.set_cons_succ, List.length_cons, List.length_nil, Bool.and_self, Nat.reduceAdd, Nat.reduceSub, Nat.reduceMul, Nat.zero_add, List.replicate, evK_go, reduceIte, Nat.reduceEqDiff, Nat.reduceLT, and_self, Int.zero_add, List.foldl_cons, List.foldl_nil, Int.cast_ofNat_Int, slots, wkL_nil, wkL_cons, wkB_nil, wkB_cons, wkR_nil, wkV_j, wkV_d, wkV_p, frz_d, pK_z, reduceCtorEq]
  · intro a ha
    have hba := odA_le S m a
    simp (implicitDefEqProofs := false) (dsimp := false) only [slots, ↓aw_cond, ↓aw_seq, ↓aw_reg, ↓Qseq_n, ↓ops_nil, ↓ops_cons, ↓eval_tmp, ↓put_some, ↓bK_b, ↓binE_i, ↓bi_lss, ↓op_bin, List.getD_cons_zero, List.getD_cons_succ, List.set_cons_zero, List.set_cons_succ, Nat.reduceAdd, Nat.reduceSub, Nat.reduceMul, List.replicate, evK_go, reduceIte, Nat.reduceEqDiff, Nat.reduceLT, List.foldl_cons, List.foldl_nil, Int.ofNat_lt]
    refine cdK_dec (fun h => ?_) (fun h => ?_)
    · have ha64 : a < 64 := by omega
      simp (implicitDefEqProofs := false) (dsimp := false) only [h, ha64, with0_call, ↓aw_seq, ↓aw_block, ↓aw_skip, ↓aw_loop, ↓aw_reg, ↓Qseq_n, ↓ops_nil, ↓ops_cons, ↓eval_tmp, ↓eval_int, ↓eval_func, ↓put_some, ↓op_move, ↓op_assign, ↓op_call, isD_d, ↓fnK_f, ↓call_H, ↓callK_H, ↓allT_nil, ↓allT_cons, ↓td_d, List.getD_cons_zero, List.getD_cons_succ, List.set_cons_zero, List.set_cons_succ, List.append_nil, List.all_cons, List.all_nil, Bool.true_and, Bool.and_self, Bool.true_or, Nat.reduceAdd, Nat.reduceSub, Nat.reduceMul, evK_go, reduceIte, decide_true, Nat.reduceEqDiff, Nat.reduceLT, and_self, true_and]
      (repeat refine OrH.l ?_)
      refine loopW (fun k : Nat => { tm := slots 64 [(0, .d (I .i64 (m : Int))), (7, .p 0 0), (8, .d (I .i64 (odK S a (odA S m a) k : Nat))), (9, .d (I .i64 a)), (10, .d (U (nowS S a k))), (11, .d (I .i64 (k + 1 : Nat))), (23, .d (I .i64 (m : Int))), (24, .d (I .i64 a))], bx := [.d (.l (S.map U))], rw := [] })
        (fun k => k ≤ m) (fun k => m - k) 0 (by simp) ?_ ?_
      · refine Wkn.of [0] [] ?_
        simp (implicitDefEqProofs := false) (dsimp := false) only [odK, nowS, ↓vcells_l, List.getD_cons_zero, List.set_cons_zero, List.set_cons_succ, List.length_cons, List.length_nil, Bool.and_self, Nat.reduceAdd, Nat.reduceSub, Nat.reduceMul, Nat.zero_add, List.replicate, evK_go, reduceIte, Nat.reduceEqDiff, Nat.reduceLT, and_self, Int.zero_add, List.foldl_cons, List.foldl_nil, Int.cast_ofNat_Int, slots, wkL_nil, wkL_cons, wkB_nil, wkB_cons, wkR_nil, wkV_j, wkV_d, wkV_p, frz_d, pK_z, reduceCtorEq]
      · intro k hk
        have hbk := odK_le S a _ m hba k hk
        have hn64 := nowS_lt hSt ha64 k
        simp (implicitDefEqProofs := false) (dsimp := false) only [slots, ↓aw_cond, ↓aw_seq, ↓aw_reg, ↓Qseq_n, ↓ops_nil, ↓ops_cons, ↓eval_tmp, ↓put_some, ↓bK_b, ↓binE_i, ↓bi_leq, ↓op_move, ↓op_bin, List.getD_cons_zero, List.getD_cons_succ, List.set_cons_zero, List.set_cons_succ, Nat.reduceAdd, Nat.reduceSub, Nat.reduceMul, List.replicate, evK_go, reduceIte, Nat.reduceEqDiff, Nat.reduceLT, List.foldl_cons, List.foldl_nil, Int.cast_ofNat_Int, Int.natCast_add]
        refine cdK_dec (fun h1 => ?_) (fun h1 => ?_)
        · simp (implicitDefEqProofs := false) (dsimp := false) only [each_call, ↓aw_seq, ↓aw_block, ↓aw_skip, ↓aw_rng, ↓aw_reg, ↓Qseq_n, ↓ops_nil, ↓ops_cons, ↓eval_tmp, ↓eval_int, ↓eval_func, ↓put_some, ↓put_none, ↓op_move, ↓op_call, ↓op_alloc, ↓op_store, isD_d, ↓fnK_f, ↓call_H, ↓callK_H, ↓allT_nil, ↓allT_cons, ↓td_d, ↓addBox_mk, ↓setBox_mk, ↓st_bx, ↓vcells_c, ↓one_i, ↓vone_d, constV_i, ↓st_p, ↓ty102, ↓zb102, List.getD_cons_zero, List.getD_cons_succ, List.set_cons_zero, List.set_cons_succ, List.cons_append, List.nil_append, List.append_nil, List.length_cons, List.length_nil, List.all_cons, List.all_nil, Bool.true_and, Bool.and_self, Bool.true_or, Nat.reduceAdd, Nat.reduceSub, Nat.reduceMul, Nat.zero_add, evK_go, reduceIte, Nat.reduceEqDiff, Nat.reduceLT, and_self, true_and, Int.zero_add]
          (repeat refine OrH.l ?_)
          refine rangeW (slots 64 [(0, .d (I .i64 (m : Int))), (7, .p 0 0), (8, .d (I .i64 (odK S a (odA S m a) k : Nat))), (9, .d (I .i64 a)), (11, .d (I .i64 (k + 1 : Nat))), (12, .p 1 0), (23, .d (I .i64 (m : Int))), (24, .d (I .i64 a)), (35, .d (.f (.func 111) [.q [U (nowS S a k)]]))])
            (fun P : List Nat => [.d (.l (S.map U)), .d (U (orL S P))]) (fun _ => []) (fun ys P => ys = P.map Int.ofNat) []
            (by simp [slots]) (each_iter _ hn64) ?_ rfl ?_ ?_ ?_
          · simp (implicitDefEqProofs := false) (dsimp := false) only [slots, ↓eval_tmp, List.getD_cons_zero, List.getD_cons_succ, List.set_cons_zero, List.set_cons_succ, Nat.reduceAdd, Nat.reduceSub, Nat.reduceMul, List.replicate, evK_go, reduceIte, Nat.reduceEqDiff, Nat.reduceLT, List.foldl_cons, List.foldl_nil, Int.cast_ofNat_Int, Int.natCast_add]
          · refine Wkn.of [0, 1] [] ?_
            simp (implicitDefEqProofs := false) (dsimp := false) only [orL, List.foldl_nil, ↓vcells_c, ↓vcells_l, List.getD_cons_zero, List.getD_cons_succ, List.set_cons_zero, List.set_cons_succ, List.length_cons, List.length_nil, Bool.and_self, Nat.reduceAdd, Nat.reduceSub, Nat.reduceMul, Nat.zero_add, List.replicate, evK_go, reduceIte, Nat.reduceEqDiff, Nat.reduceLT, and_self, Int.zero_add, List.foldl_cons, List.foldl_nil, Int.cast_ofNat_Int, Int.natCast_add, slots, wkL_nil, wkL_cons, wkB_nil, wkB_cons, wkR_nil, wkV_j, wkV_d, wkV_p, frz_d, pK_z, pK_s, dc_eq, reduceCtorEq]
          · rintro ys x P hpx rfl
            obtain ⟨P', c, hP, rfl, hcc⟩ := prefix_map hpx
            obtain rfl : P = P' := ofNat_inj hP
            have hcm := (pts_mem _ _).1 (hcc.subset (by simp : c ∈ P ++ [c]))
            have hcl : c < S.length := by rw [hSl]; exact hSb a h k c hcm.2
            have hct := hSt _ (getD_mem hcl)
            have hor := orL_lt hSt P
            simp (implicitDefEqProofs := false) (dsimp := false) only [slots, hcl, hct, hor, ↓atK_H, ↓atH_map, ↓nthK_H, ↓nthH_zero, ↓aw_block, ↓aw_reg, ↓aw_draw, ↓Qblk_n, ↓ops_nil, ↓ops_cons, ↓eval_tmp, ↓put_some, ↓put_none, ↓iK_i, ↓ev_move, ↓ev_load, ↓ev_bin, ↓ev_ia, ↓binE_i, ↓bi_or, ↓ldK_q, ↓ldK_p, ↓iaK_l, ↓op_assign, ↓op_store, ↓draw_H, ↓h_cons, ↓ldH_t, ↓ldH_n, ↓q_move, ↓q_load, ↓q_bin, ↓q_ia, ↓il_move, ↓il_load, ↓il_bin, ↓il_ia, ↓il_store, ↓setBox_mk, ↓st_bx, ↓cells_c, ↓vcells_c, ↓vcells_l, ↓one_i, ↓vone_d, ↓st_p, ↓hd_cons, ↓Qn_n, ↓Qrd_n, ↓back_mk, ↓ty99, ↓sl99, ↓ty102, List.getD_cons_zero, List.getD_cons_succ, List.set_cons_zero, List.set_cons_succ, List.length_cons, List.length_nil, List.all_cons, List.all_nil, Bool.true_and, Bool.and_self, Nat.reduceAdd, Nat.reduceSub, Nat.reduceMul, Nat.zero_add, Int.toNat_natCast, List.replicate, evK_go, reduceIte, Nat.reduceEqDiff, Nat.reduceLT, and_self, true_and, Int.zero_add, List.foldl_cons, List.foldl_nil, Int.cast_ofNat_Int, Int.natCast_add, Int.natCast_nonneg]
            refine OrH.l ⟨DrawH.of follows_mixed (by kernel_rfl), ?_⟩
            refine ⟨P ++ [c], by simp, ?_⟩
            refine Wkn.of [0, 1] [] ?_
            simp (implicitDefEqProofs := false) (dsimp := false) only [orL_snoc, ↓vcells_c, ↓vcells_l, List.getD_cons_zero, List.getD_cons_succ, List.length_cons, List.length_nil, Bool.and_self, Nat.reduceAdd, Nat.reduceSub, Nat.reduceMul, Nat.zero_add, evK_go, reduceIte, Nat.reduceEqDiff, Nat.reduceLT, and_self, Int.zero_add, slots, wkL_nil, wkL_cons, wkB_nil, wkB_cons, wkR_nil, wkV_j, wkV_d, wkV_p, frz_d, pK_z, pK_s, reduceCtorEq]
          · rintro P hP
            obtain rfl : pts (nowS S a k) = P := ofNat_inj hP
            have hns : orL S (pts (nowS S a k)) = nowS S a (k + 1) := rfl
            have hn1 := nowS_lt hSt ha64 (k + 1)
            have hodd : odK S a (odA S m a) (k + 1) = oddK S a (odK S a (odA S m a) k) (k + 1) := rfl
            unfold oddK at hodd
            generalize odA S m a = B0 at *
            generalize odK S a B0 k = B at *
            have ha65 : a ≤ 64 := by omega
            simp (implicitDefEqProofs := false) (dsimp := false) only [slots, hns, ↓gdK_t, ↓gval_mk, ↓gvL_zero, ↓gvL_succ, ↓nthK_H, ↓nthH_zero, ↓aw_seq, ↓aw_reg, ↓Qseq_n, ↓Qblk_n, ↓ops_nil, ↓ops_cons, ↓ops_guard, ↓eval_tmp, ↓eval_int, ↓put_some, ↓binE_i, ↓bi_rem, ↓bi_eql, ↓ldK_p, ↓op_move, ↓op_assign, ↓op_load, ↓op_bin, ↓st_tm, ↓vcells_c, ↓ty102, List.getD_cons_zero, List.getD_cons_succ, List.set_cons_zero, List.set_cons_succ, Nat.reduceAdd, Nat.reduceSub, Nat.reduceMul, List.replicate, evK_go, reduceIte, Nat.reduceEqDiff, Nat.reduceLT, List.foldl_cons, List.foldl_nil, Int.cast_ofNat_Int, Int.natCast_add]
            refine ⟨⟨by omega, by decide⟩, cdK_dec (fun c1 => ?_) (fun c1 => ?_)⟩
            · have hU : D.c (Value.int IntKind.u64 ((nowS S a (k + 1) : Nat) : Int)) = U (nowS S a (k + 1)) := rfl
              cases hb : (nowS S a (k + 1)).testBit a with
              | false =>
                rw [hb, if_neg (fun e => by cases e.2.1)] at hodd
                simp (implicitDefEqProofs := false) (dsimp := false) only [decide_eq_true c1, hU, hasS_call, hn1, ha65, hb, ↓cdK_true, ↓cdK_false, ↓gdK_junk, ↓gdK_t, ↓gval_mk, ↓gvL_zero, ↓gvL_succ, ↓aw_cond, ↓aw_skip, ↓aw_reg, ↓Qseq_n, ↓Qblk_n, ↓ops_nil, ↓ops_cons, ↓ops_guard, ↓eval_tmp, ↓eval_int, ↓eval_bool, ↓eval_func, ↓put_some, ↓bK_b, ↓binE_i, ↓bi_add, ↓in_i64, ↓op_move, ↓op_assign, ↓op_pick, ↓op_bin, ↓op_call, isD_d, ↓fnK_f, ↓call_H, ↓callK_H, ↓allT_nil, ↓allT_cons, ↓td_d, ↓st_tm, List.getD_cons_zero, List.getD_cons_succ, List.set_cons_zero, List.set_cons_succ, List.append_nil, List.all_cons, List.all_nil, Bool.true_and, Bool.and_self, Bool.true_or, Nat.reduceAdd, Nat.reduceSub, Nat.reduceMul, evK_go, reduceIte, Nat.reduceEqDiff, Nat.reduceLT, and_self, true_and, Int.cast_ofNat_Int, Int.natCast_add]
                (repeat refine OrH.l ?_)
                refine ⟨by omega, k + 1, by omega, by omega, ?_⟩
                refine Wkn.of [0] [] ?_
                simp (implicitDefEqProofs := false) (dsimp := false) only [hodd, ↓vcells_l, List.getD_cons_zero, List.set_cons_zero, List.set_cons_succ, List.length_cons, List.length_nil, Bool.and_self, Nat.reduceAdd, Nat.reduceSub, Nat.reduceMul, Nat.zero_add, List.replicate, evK_go, reduceIte, Nat.reduceEqDiff, Nat.reduceLT, and_self, Int.zero_add, List.foldl_cons, List.foldl_nil, Int.cast_ofNat_Int, Int.natCast_add, slots, wkL_nil, wkL_cons, wkB_nil, wkB_cons, wkR_nil, wkV_j, wkV_d, wkV_p, frz_d, pK_z, reduceCtorEq]
              | true =>
                rw [hb] at hodd
                simp (implicitDefEqProofs := false) (dsimp := false) only [decide_eq_true c1, hU, hasS_call, hn1, ha65, hb, ↓cdK_true, ↓gdK_t, ↓gdK_f, ↓gval_mk, ↓gvL_zero, ↓gvL_succ, ↓ops_cons, ↓ops_guard, ↓eval_tmp, ↓eval_int, ↓eval_func, ↓put_some, ↓bK_b, ↓binE_i, ↓bi_eql, ↓op_move, ↓op_pick, ↓op_bin, ↓op_call, isD_d, ↓fnK_f, ↓call_H, ↓callK_H, ↓allT_nil, ↓allT_cons, ↓td_d, ↓st_tm, List.getD_cons_zero, List.getD_cons_succ, List.set_cons_zero, List.set_cons_succ, List.append_nil, List.all_cons, List.all_nil, Bool.true_and, Bool.and_self, Bool.true_or, Nat.reduceAdd, Nat.reduceSub, Nat.reduceMul, evK_go, reduceIte, Nat.reduceEqDiff, Nat.reduceLT, and_self, true_and]
                (repeat refine OrH.l ?_)
                refine cdK_dec (fun c2 => ?_) (fun c2 => ?_)
                · rw [if_pos ⟨by omega, rfl, .inl (by omega)⟩] at hodd
                  simp (implicitDefEqProofs := false) (dsimp := false) only [decide_eq_true c2, ↓cdK_true, ↓gdK_t, ↓gdK_f, ↓gval_mk, ↓gvL_zero, ↓gvL_succ, ↓aw_cond, ↓aw_reg, ↓Qseq_n, ↓Qblk_n, ↓ops_nil, ↓ops_cons, ↓ops_guard, ↓eval_tmp, ↓eval_int, ↓eval_bool, ↓put_some, ↓bK_b, ↓binE_i, ↓bi_add, ↓in_i64, ↓op_move, ↓op_assign, ↓op_pick, ↓op_bin, ↓st_tm, List.getD_cons_zero, List.getD_cons_succ, List.set_cons_zero, List.set_cons_succ, Nat.reduceAdd, Nat.reduceSub, Nat.reduceMul, evK_go, reduceIte, Nat.reduceEqDiff, Nat.reduceLT, Int.cast_ofNat_Int, Int.natCast_add]
                  refine ⟨by omega, k + 1, by omega, by omega, ?_⟩
                  refine Wkn.of [0] [] ?_
                  simp (implicitDefEqProofs := false) (dsimp := false) only [hodd, ↓vcells_l, List.getD_cons_zero, List.set_cons_zero, List.set_cons_succ, List.length_cons, List.length_nil, Bool.and_self, Nat.reduceAdd, Nat.reduceSub, Nat.reduceMul, Nat.zero_add, List.replicate, evK_go, reduceIte, Nat.reduceEqDiff, Nat.reduceLT, and_self, Int.zero_add, List.foldl_cons, List.foldl_nil, Int.cast_ofNat_Int, Int.natCast_add, slots, wkL_nil, wkL_cons, wkB_nil, wkB_cons, wkR_nil, wkV_j, wkV_d, wkV_p, frz_d, pK_z, reduceCtorEq]
                · simp (implicitDefEqProofs := false) (dsimp := false) only [decide_eq_false c2, ↓cdK_true, ↓cdK_false, ↓gdK_t, ↓gdK_f, ↓gval_mk, ↓gvL_zero, ↓gvL_succ, ↓aw_cond, ↓Qseq_n, ↓ops_nil, ↓ops_cons, ↓ops_guard, ↓eval_tmp, ↓put_some, ↓bK_b, ↓binE_i, ↓bi_lss, ↓op_move, ↓op_pick, ↓op_bin, ↓st_tm, List.getD_cons_zero, List.getD_cons_succ, List.set_cons_zero, List.set_cons_succ, Nat.reduceAdd, Nat.reduceSub, Nat.reduceMul, evK_go, reduceIte, Nat.reduceEqDiff, Nat.reduceLT]
                  refine cdK_dec (fun c3 => ?_) (fun c3 => ?_)
                  · rw [if_pos ⟨by omega, rfl, .inr (by omega)⟩] at hodd
                    simp (implicitDefEqProofs := false) (dsimp := false) only [decide_eq_true c3, ↓aw_reg, ↓Qseq_n, ↓Qblk_n, ↓ops_nil, ↓ops_cons, ↓eval_tmp, ↓eval_int, ↓put_some, ↓binE_i, ↓bi_add, ↓in_i64, ↓op_move, ↓op_assign, ↓op_bin, List.getD_cons_zero, List.getD_cons_succ, List.set_cons_zero, List.set_cons_succ, Nat.reduceAdd, Nat.reduceSub, Nat.reduceMul, evK_go, reduceIte, Nat.reduceEqDiff, Nat.reduceLT, Int.cast_ofNat_Int, Int.natCast_add]
                    refine ⟨by omega, k + 1, by omega, by omega, ?_⟩
                    refine Wkn.of [0] [] ?_
                    simp (implicitDefEqProofs := false) (dsimp := false) only [hodd, ↓vcells_l, List.getD_cons_zero, List.set_cons_zero, List.set_cons_succ, List.length_cons, List.length_nil, Bool.and_self, Nat.reduceAdd, Nat.reduceSub, Nat.reduceMul, Nat.zero_add, List.replicate, evK_go, reduceIte, Nat.reduceEqDiff, Nat.reduceLT, and_self, Int.zero_add, List.foldl_cons, List.foldl_nil, Int.cast_ofNat_Int, Int.natCast_add, slots, wkL_nil, wkL_cons, wkB_nil, wkB_cons, wkR_nil, wkV_j, wkV_d, wkV_p, frz_d, pK_z, reduceCtorEq]
                  · rw [if_neg (fun e => by rcases e.2.2 with e | e <;> omega)] at hodd
                    simp (implicitDefEqProofs := false) (dsimp := false) only [decide_eq_false c3, ↓aw_skip, ↓aw_reg, ↓Qseq_n, ↓Qblk_n, ↓ops_nil, ↓ops_cons, ↓eval_tmp, ↓eval_int, ↓put_some, ↓binE_i, ↓bi_add, ↓in_i64, ↓op_move, ↓op_assign, ↓op_bin, List.getD_cons_zero, List.getD_cons_succ, List.set_cons_zero, List.set_cons_succ, Nat.reduceAdd, Nat.reduceSub, Nat.reduceMul, evK_go, reduceIte, Nat.reduceEqDiff, Nat.reduceLT, Int.cast_ofNat_Int, Int.natCast_add]
                    refine ⟨by omega, k + 1, by omega, by omega, ?_⟩
                    refine Wkn.of [0] [] ?_
                    simp (implicitDefEqProofs := false) (dsimp := false) only [hodd, ↓vcells_l, List.getD_cons_zero, List.set_cons_zero, List.set_cons_succ, List.length_cons, List.length_nil, Bool.and_self, Nat.reduceAdd, Nat.reduceSub, Nat.reduceMul, Nat.zero_add, List.replicate, evK_go, reduceIte, Nat.reduceEqDiff, Nat.reduceLT, and_self, Int.zero_add, List.foldl_cons, List.foldl_nil, Int.cast_ofNat_Int, Int.natCast_add, slots, wkL_nil, wkL_cons, wkB_nil, wkB_cons, wkR_nil, wkV_j, wkV_d, wkV_p, frz_d, pK_z, reduceCtorEq]
            · rw [if_neg (fun e => c1 (by omega))] at hodd
              simp (implicitDefEqProofs := false) (dsimp := false) only [decide_eq_false c1, ↓cdK_false, ↓gdK_junk, ↓gdK_t, ↓gval_mk, ↓gvL_zero, ↓gvL_succ, ↓aw_cond, ↓aw_skip, ↓aw_reg, ↓Qseq_n, ↓Qblk_n, ↓ops_nil, ↓ops_cons, ↓ops_guard, ↓eval_tmp, ↓eval_int, ↓eval_bool, ↓put_some, ↓bK_b, ↓binE_i, ↓bi_add, ↓in_i64, ↓op_move, ↓op_assign, ↓op_pick, ↓op_bin, ↓st_tm, List.getD_cons_zero, List.getD_cons_succ, List.set_cons_zero, List.set_cons_succ, Nat.reduceAdd, Nat.reduceSub, Nat.reduceMul, evK_go, reduceIte, Nat.reduceEqDiff, Nat.reduceLT, Int.cast_ofNat_Int, Int.natCast_add]
              refine ⟨by omega, k + 1, by omega, by omega, ?_⟩
              refine Wkn.of [0] [] ?_
              simp (implicitDefEqProofs := false) (dsimp := false) only [hodd, ↓vcells_l, List.getD_cons_zero, List.set_cons_zero, List.set_cons_succ, List.length_cons, List.length_nil, Bool.and_self, Nat.reduceAdd, Nat.reduceSub, Nat.reduceMul, Nat.zero_add, List.replicate, evK_go, reduceIte, Nat.reduceEqDiff, Nat.reduceLT, and_self, Int.zero_add, List.foldl_cons, List.foldl_nil, Int.cast_ofNat_Int, Int.natCast_add, slots, wkL_nil, wkL_cons, wkB_nil, wkB_cons, wkR_nil, wkV_j, wkV_d, wkV_p, frz_d, pK_z, reduceCtorEq]
        · obtain rfl : k = m := by omega
          have ha1 : odA S k (a + 1) = odK S a (odA S k a) k := rfl
          simp (implicitDefEqProofs := false) (dsimp := false) only [eval_nilI, ↓aw_seq, ↓aw_exit, ↓aw_ret, ↓aw_reg, ↓Qseq_n, ↓Qseq_x, ↓Qblk_n, ↓Qblk_x, ↓Qret_r, ↓ops_nil, ↓ops_cons, ↓eval_tmp, ↓eval_int, ↓put_some, ↓binE_i, ↓bi_add, ↓in_i64, ↓op_move, ↓op_assign, ↓op_bin, ↓td_d, ↓ret_2, List.getD_cons_zero, List.getD_cons_succ, List.set_cons_zero, List.set_cons_succ, Nat.reduceAdd, Nat.reduceSub, Nat.reduceMul, evK_go, reduceIte, Nat.reduceEqDiff, Nat.reduceLT]
          refine ⟨by omega, a + 1, by omega, by omega, ?_⟩
          refine Wkn.of [0] [] ?_
          simp (implicitDefEqProofs := false) (dsimp := false) only [ha1, ↓vcells_l, List.getD_cons_zero, List.set_cons_zero, List.set_cons_succ, List.length_cons, List.length_nil, Bool.and_self, Nat.reduceAdd, Nat.reduceSub, Nat.reduceMul, Nat.zero_add, List.replicate, evK_go, reduceIte, Nat.reduceEqDiff, Nat.reduceLT, and_self, Int.zero_add, List.foldl_cons, List.foldl_nil, Int.cast_ofNat_Int, Int.natCast_add, slots, wkL_nil, wkL_cons, wkB_nil, wkB_cons, wkR_nil, wkV_j, wkV_d, wkV_p, frz_d, pK_z, reduceCtorEq]
    · obtain rfl : a = m := by omega
      simp (implicitDefEqProofs := false) (dsimp := false) only [hodn, eval_nilI, ↓aw_seq, ↓aw_exit, ↓aw_ret, ↓aw_reg, ↓Qseq_n, ↓Qseq_x, ↓Qblk_x, ↓Qret_r, ↓ops_nil, ↓ops_cons, ↓eval_tmp, ↓put_some, ↓op_move, ↓op_assign, ↓td_d, ↓ret_2, List.getD_cons_zero, List.getD_cons_succ, List.set_cons_zero, List.set_cons_succ, Nat.reduceAdd, Nat.reduceSub, Nat.reduceMul, evK_go, reduceIte, decide_false, Nat.reduceEqDiff, Nat.reduceLT, Nat.lt_irrefl]
      rfl
theorem hodd_call (n : Int) (l : List (Int × Int)) (pure : Bool) (σ : St) (dst : Option Tmp) (K : St → Prop) : CallH Tryd.prog 72 [I .i64 n, .l (l.map lnD)] pure σ dst (.mk : Hid K) = OrH ((l.length < 2 ^ 62) ∧ (pure || D.flat (.t [I .i64 (oddR n l : Nat), erD (chk n l)])) = true ∧ evK (σ.put dst (.d (.t [I .i64 (oddR n l : Nat), erD (chk n l)]))) (.mk : Hid K)) (.mk : Hid (CallH Tryd.prog 72 [I .i64 n, .l (l.map lnD)] pure σ dst (.mk : Hid K))) := CallH.eq (hodd_spec n l) pure σ dst K
end Go.Proofs

namespace Go.Proofs
open Go.Aw
set_option linter.unusedSimpArgs false
set_option maxRecDepth 10000
set_option maxHeartbeats 2000000
def besR (l : List (Int × Int)) (a b : Nat) : Bool := decide (((a : Int), (b : Int)) ∈ l) || decide (((b : Int), (a : Int)) ∈ l)
theorem rbes_spec (l : List (Int × Int)) (a b : Nat) (hpre : l.length < 2 ^ 62) : FnD Tryd.prog 109 [.l (l.map lnD), I .i64 (a : Int), I .i64 (b : Int)] (Bo (besR l a b)) := by
  unfold besR
  refine FnD.go Tryd.func109 rfl rfl Tryd.results109 Tryd.ntmps109 ?_
  simp (implicitDefEqProofs := false) (dsimp := false) only [↓aw_seq, ↓aw_reg, ↓Qseq_n, ↓ops_nil, ↓ops_cons, ↓eval_tmp, ↓eval_bool, ↓eval_func, ↓put_some, ↓op_move, ↓op_assign, ↓op_call, isD_d, ↓fnK_f, ↓call_H, ↓callK_H, ↓allT_nil, ↓allT_cons, ↓td_d, List.getD_cons_zero, List.getD_cons_succ, List.set_cons_zero, List.set_cons_succ, List.cons_append, List.nil_append, List.append_nil, List.map_cons, List.map_nil, List.length_cons, List.length_nil, List.all_cons, List.all_nil, Bool.and_self, Nat.reduceAdd, Nat.reduceSub, Nat.reduceMul, Nat.zero_add, List.replicate, evK_go, reduceIte, Nat.reduceEqDiff, Nat.reduceLT, and_self, Int.zero_add]
  simp (implicitDefEqProofs := false) (dsimp := false) only [goes_call, hpre, ↓gdK_f, ↓gval_mk, ↓gvL_zero, ↓gvL_succ, ↓ops_cons, ↓ops_guard, ↓eval_tmp, ↓put_some, ↓op_move, ↓st_tm, List.getD_cons_zero, List.getD_cons_succ, List.set_cons_zero, List.set_cons_succ, Bool.true_and, Bool.true_or, Nat.reduceAdd, Nat.reduceSub, Nat.reduceMul, evK_go, reduceIte, Nat.reduceEqDiff, Nat.reduceLT, true_and]
  (repeat refine OrH.l ?_)
  cases h : decide (((a : Int), (b : Int)) ∈ l) with
  | true =>
    simp (implicitDefEqProofs := false) (dsimp := false) only [↓cdK_true, ↓gdK_f, ↓gval_mk, ↓gvL_zero, ↓gvL_succ, ↓aw_ret, ↓Qseq_n, ↓Qret_r, ↓ops_nil, ↓ops_cons, ↓ops_guard, ↓eval_tmp, ↓eval_bool, ↓put_some, ↓bK_b, ↓op_assign, ↓op_pick, ↓td_d, ↓ret_1, ↓st_tm, List.getD_cons_zero, List.getD_cons_succ, List.set_cons_zero, List.set_cons_succ, Bool.true_or, Nat.reduceAdd, Nat.reduceSub, Nat.reduceMul, evK_go, reduceIte, Nat.reduceEqDiff, Nat.reduceLT]
    skip
  | false =>
    simp (implicitDefEqProofs := false) (dsimp := false) only [goes_call, hpre, ↓cdK_false, ↓gdK_f, ↓gval_mk, ↓gvL_zero, ↓gvL_succ, ↓aw_ret, ↓Qseq_n, ↓Qret_r, ↓ops_nil, ↓ops_cons, ↓ops_guard, ↓eval_tmp, ↓eval_func, ↓put_some, ↓bK_b, ↓op_move, ↓op_assign, ↓op_pick, ↓op_call, ↓orH_T, isD_d, ↓fnK_f, ↓call_H, ↓callK_H, ↓allT_nil, ↓allT_cons, ↓td_d, ↓ret_1, ↓st_tm, List.getD_cons_zero, List.getD_cons_succ, List.set_cons_zero, List.set_cons_succ, List.append_nil, List.all_cons, List.all_nil, Bool.and_self, Bool.true_or, Bool.false_or, Nat.reduceAdd, Nat.reduceSub, Nat.reduceMul, evK_go, reduceIte, Nat.reduceEqDiff, Nat.reduceLT, and_self]
    (repeat refine OrH.l ?_)
    skip
theorem rbes_call (l : List (Int × Int)) (a b : Nat) (pure : Bool) (σ : St) (dst : Option Tmp) (K : St → Prop) : CallH Tryd.prog 109 [.l (l.map lnD), I .i64 (a : Int), I .i64 (b : Int)] pure σ dst (.mk : Hid K) = OrH ((l.length < 2 ^ 62) ∧ (pure || D.flat (Bo (besR l a b))) = true ∧ evK (σ.put dst (.d (Bo (besR l a b)))) (.mk : Hid K)) (.mk : Hid (CallH Tryd.prog 109 [.l (l.map lnD), I .i64 (a : Int), I .i64 (b : Int)] pure σ dst (.mk : Hid K))) := CallH.eq (rbes_spec l a b) pure σ dst K
theorem ring_spec (n many : Nat) (l : List (Int × Int)) (hn : n ≤ 40) (hm : many ≤ 40) (hl : l.length < 2 ^ 62) : ∀ (k : Nat) (way : List Nat), way ≠ [] → way.length + k = many →
    FnD Tryd.prog 104 [I .i64 (n : Int), .l (l.map lnD), .l (way.map nD), I .i64 (many : Int)] (Bo (ringF n (besR l) k way)) := by
  intro k
  induction k with
  | zero =>
    intro way hw hk
    have hlen : 0 < way.length := List.length_pos_iff.2 hw
    have e14 : (way.length : Int) - 1 = ((way.length - 1 : Nat) : Int) := by omega
    have hlt : way.length - 1 < way.length := by omega
    have hd : decide (way.length = many) = true := decide_eq_true (by omega)
    have hF : ringF n (besR l) 0 way = besR l (way.getD (way.length - 1) default) (way.getD 0 default) := rfl
    rw [hF]
    refine FnD.go Tryd.func104 rfl rfl Tryd.results104 Tryd.ntmps104 ?_
    simp (implicitDefEqProofs := false) (dsimp := false) only [↓atK_H, ↓atH_map, ↓aw_cond, ↓aw_seq, ↓aw_reg, ↓Qseq_n, ↓ops_nil, ↓ops_cons, ↓eval_tmp, ↓eval_int, ↓eval_bool, ↓put_some, ↓bK_b, ↓iK_i, ↓lenK_l, ↓binE_i, ↓bi_sub, ↓bi_eql, ↓in_i64, ↓ldK_q, ↓iaK_l, ↓op_move, ↓op_assign, ↓op_load, ↓op_bin, ↓op_ia, ↓op_len, ↓ty3, ↓sl24, List.getD_cons_zero, List.getD_cons_succ, List.set_cons_zero, List.set_cons_succ, List.cons_append, List.nil_append, List.map_cons, List.map_nil, List.length_cons, List.length_nil, List.length_map, Nat.reduceAdd, Nat.reduceSub, Nat.reduceMul, Nat.zero_add, List.replicate, evK_go, reduceIte, Nat.reduceEqDiff, Nat.reduceLT, Int.zero_add, Int.natCast_inj]
    simp (implicitDefEqProofs := false) (dsimp := false) only [e14, hlt, hd, hlen, nD, rbes_call, hl, ↓cdK_true, ↓atK_H, ↓atH_map, ↓aw_seq, ↓aw_ret, ↓aw_reg, ↓Qseq_n, ↓Qseq_r, ↓Qret_r, ↓ops_nil, ↓ops_cons, ↓eval_tmp, ↓eval_int, ↓eval_func, ↓put_some, ↓iK_i, ↓ldK_q, ↓iaK_l, ↓op_move, ↓op_assign, ↓op_load, ↓op_ia, ↓op_call, ↓orH_T, isD_d, ↓fnK_f, ↓call_H, ↓callK_H, ↓allT_nil, ↓allT_cons, ↓td_d, ↓ret_1, ↓cells_c, ↓hd_cons, ↓ty3, ↓sl24, List.getD_cons_zero, List.getD_cons_succ, List.set_cons_zero, List.set_cons_succ, List.append_nil, List.length_cons, List.length_nil, List.all_cons, List.all_nil, Bool.and_true, Bool.true_and, Bool.and_self, Bool.true_or, Nat.reduceAdd, Nat.reduceSub, Nat.reduceMul, Nat.zero_add, Int.toNat_natCast, Int.toNat_zero, evK_go, reduceIte, Nat.reduceEqDiff, Nat.reduceLT, and_self, true_and, and_true, Int.zero_add, Int.natCast_nonneg]
    (repeat (first | refine OrH.l ?_ | refine ⟨⟨rfl, by decide⟩, ?_⟩ | refine ⟨by decide, ?_⟩ | refine ⟨by omega, ?_⟩ | exact ⟨rfl, by decide⟩ | decide))
  | succ k ih =>
    intro way hw hk
    have hlen : 0 < way.length := List.length_pos_iff.2 hw
    have e14 : (way.length : Int) - 1 = ((way.length - 1 : Nat) : Int) := by omega
    have hlt : way.length - 1 < way.length := by omega
    have hd : decide (way.length = many) = false := decide_eq_false (by omega)
    have hw40 : way.length < 2 ^ 40 := by omega
    have hw62 : way.length < 2 ^ 62 := by omega
    have hc2 := fun b => CallH.eq0 (ih (way ++ [b]) (by simp) (by simp; omega))
    have hF : ringF n (besR l) (k + 1) way = (List.range n).any fun b => besR l (way.getD (way.length - 1) default) b && (!decide (b ∈ way) && ringF n (besR l) k (way ++ [b])) := rfl
    rw [hF]
    clear hF ih
    generalize ringF n (besR l) k = f at *
    refine FnD.go Tryd.func104 rfl rfl Tryd.results104 Tryd.ntmps104 ?_
    simp (implicitDefEqProofs := false) (dsimp := false) only [↓atK_H, ↓atH_map, ↓aw_cond, ↓aw_seq, ↓aw_reg, ↓Qseq_n, ↓ops_nil, ↓ops_cons, ↓eval_tmp, ↓eval_int, ↓eval_bool, ↓put_some, ↓bK_b, ↓iK_i, ↓lenK_l, ↓binE_i, ↓bi_sub, ↓bi_eql, ↓in_i64, ↓ldK_q, ↓iaK_l, ↓op_move, ↓op_assign, ↓op_load, ↓op_bin, ↓op_ia, ↓op_len, ↓ty3, ↓sl24, List.getD_cons_zero, List.getD_cons_succ, List.set_cons_zero, List.set_cons_succ, List.cons_append, List.nil_append, List.map_cons, List.map_nil, List.length_cons, List.length_nil, List.length_map, Nat.reduceAdd, Nat.reduceSub, Nat.reduceMul, Nat.zero_add, List.replicate, evK_go, reduceIte, Nat.reduceEqDiff, Nat.reduceLT, Int.zero_add, Int.natCast_inj]
    simp (implicitDefEqProofs := false) (dsimp := false) only [e14, hlt, hd, nD, ↓cdK_false, ↓aw_seq, ↓aw_block, ↓aw_skip, ↓aw_loop, ↓aw_reg, ↓Qseq_n, ↓ops_nil, ↓ops_cons, ↓eval_int, ↓put_some, ↓op_assign, ↓cells_c, ↓hd_cons, List.set_cons_zero, List.set_cons_succ, List.length_cons, List.length_nil, Bool.true_and, Nat.reduceAdd, Nat.reduceSub, Nat.reduceMul, Nat.zero_add, Int.toNat_natCast, evK_go, reduceIte, Nat.reduceEqDiff, Nat.reduceLT, true_and, Int.zero_add, Int.natCast_nonneg]
    refine ⟨by omega, ?_⟩
    generalize way.getD (way.length - 1) default = x
    generalize hres : ((List.range n).any fun b => besR l x b && (!decide (b ∈ way) && f (way ++ [b]))) = res
    refine loopW (fun b : Nat => { tm := slots 51 [(0, .d (I .i64 (n : Int))), (1, .d (.l (l.map lnD))), (2, .d (.l (way.map nD))), (3, .d (I .i64 (many : Int))), (9, .d (I .i64 (x : Int))), (10, .d (I .i64 b))], bx := [], rw := [] })
      (fun b => b ≤ n ∧ ((List.range b).any fun b => besR l x b && (!decide (b ∈ way) && f (way ++ [b]))) = false) (fun b => n - b) 0 ⟨by simp, by simp⟩ ?_ ?_
    · refine Wkn.of [] [] ?_; simp (implicitDefEqProofs := false) (dsimp := false) only [List.set_cons_zero, List.set_cons_succ, Bool.and_self, Nat.reduceAdd, Nat.reduceSub, Nat.reduceMul, List.replicate, evK_go, reduceIte, Nat.reduceEqDiff, Nat.reduceLT, and_self, List.foldl_cons, List.foldl_nil, Int.cast_ofNat_Int, slots, wkL_nil, wkL_cons, wkB_nil, wkR_nil, wkV_j, wkV_d, frz_d, reduceCtorEq]
    · rintro b ⟨hb, hno⟩
      simp (implicitDefEqProofs := false) (dsimp := false) only [slots, ↓aw_cond, ↓aw_seq, ↓aw_reg, ↓Qseq_n, ↓ops_nil, ↓ops_cons, ↓eval_tmp, ↓put_some, ↓bK_b, ↓binE_i, ↓bi_lss, ↓op_move, ↓op_bin, List.getD_cons_zero, List.getD_cons_succ, List.set_cons_zero, List.set_cons_succ, Nat.reduceAdd, Nat.reduceSub, Nat.reduceMul, List.replicate, evK_go, reduceIte, Nat.reduceEqDiff, Nat.reduceLT, List.foldl_cons, List.foldl_nil, Int.ofNat_lt]
      refine cdK_dec (fun h => ?_) (fun h => ?_)
      rotate_left
      · obtain rfl : b = n := by omega
        rw [hno] at hres
        subst hres
        simp (implicitDefEqProofs := false) (dsimp := false) only [↓aw_seq, ↓aw_exit, ↓aw_ret, ↓aw_reg, ↓Qseq_n, ↓Qseq_x, ↓Qblk_x, ↓Qret_r, ↓ops_nil, ↓ops_cons, ↓eval_tmp, ↓eval_bool, ↓put_some, ↓op_assign, ↓td_d, ↓ret_1, List.getD_cons_zero, List.getD_cons_succ, List.set_cons_zero, List.set_cons_succ, Nat.reduceAdd, Nat.reduceSub, Nat.reduceMul, evK_go, reduceIte, decide_false, Nat.reduceEqDiff, Nat.reduceLT, Nat.lt_irrefl]
      have hbn : b < n := by omega
      have hs : ((List.range (b + 1)).any fun b => besR l x b && (!decide (b ∈ way) && f (way ++ [b]))) = (besR l x b && (!decide (b ∈ way) && f (way ++ [b]))) := by
        rw [List.range_succ, List.any_append, hno, Bool.false_or, List.any_cons, List.any_nil, Bool.or_false]
      have hyes : (besR l x b && (!decide (b ∈ way) && f (way ++ [b]))) = true → res = true := fun h => by
        rw [← hres, List.any_eq_true]
        exact ⟨b, List.mem_range.2 hbn, h⟩
      simp (implicitDefEqProofs := false) (dsimp := false) only [rbes_call, hl, ↓gdK_t, ↓gval_mk, ↓gvL_zero, ↓gvL_succ, ↓aw_seq, ↓aw_block, ↓aw_skip, ↓aw_reg, ↓Qseq_n, ↓ops_cons, ↓ops_guard, ↓eval_tmp, ↓eval_func, ↓put_some, ↓op_move, ↓op_call, isD_d, ↓fnK_f, ↓call_H, ↓callK_H, ↓allT_nil, ↓allT_cons, ↓td_d, ↓st_tm, List.getD_cons_zero, List.getD_cons_succ, List.set_cons_zero, List.set_cons_succ, List.append_nil, List.all_cons, List.all_nil, Bool.true_and, Bool.and_self, Bool.true_or, Nat.reduceAdd, Nat.reduceSub, Nat.reduceMul, evK_go, reduceIte, Nat.reduceEqDiff, Nat.reduceLT, and_self, true_and]
      (repeat refine OrH.l ?_)
      cases h1 : besR l x b with
      | false =>
        rw [h1, Bool.false_and] at hs
        simp (implicitDefEqProofs := false) (dsimp := false) only [↓cdK_false, ↓gdK_t, ↓gval_mk, ↓gvL_zero, ↓gvL_succ, ↓aw_cond, ↓aw_skip, ↓aw_reg, ↓Qseq_n, ↓Qblk_n, ↓ops_nil, ↓ops_cons, ↓ops_guard, ↓eval_tmp, ↓eval_int, ↓eval_bool, ↓put_some, ↓bK_b, ↓binE_i, ↓bi_add, ↓in_i64, ↓op_move, ↓op_assign, ↓op_pick, ↓op_bin, ↓st_tm, List.getD_cons_zero, List.getD_cons_succ, List.set_cons_zero, List.set_cons_succ, Nat.reduceAdd, Nat.reduceSub, Nat.reduceMul, evK_go, reduceIte, Nat.reduceEqDiff, Nat.reduceLT]
        refine ⟨by omega, b + 1, ⟨by omega, hs⟩, by omega, ?_⟩
        refine Wkn.of [] [] ?_; simp (implicitDefEqProofs := false) (dsimp := false) only [List.set_cons_zero, List.set_cons_succ, Bool.and_self, Nat.reduceAdd, Nat.reduceSub, Nat.reduceMul, List.replicate, evK_go, reduceIte, Nat.reduceEqDiff, Nat.reduceLT, and_self, List.foldl_cons, List.foldl_nil, Int.cast_ofNat_Int, Int.natCast_add, slots, wkL_nil, wkL_cons, wkB_nil, wkR_nil, wkV_j, wkV_d, frz_d, reduceCtorEq]
      | true =>
        rw [h1, Bool.true_and] at hs hyes
        simp (implicitDefEqProofs := false) (dsimp := false) only [hasN_call, hw62, ↓cdK_true, ↓cdK_not, ↓gdK_t, ↓gval_mk, ↓gvL_zero, ↓gvL_succ, ↓ops_cons, ↓ops_guard, ↓eval_tmp, ↓eval_func, ↓put_some, ↓bK_b, ↓op_move, ↓op_pick, ↓op_not, ↓op_call, isD_d, ↓fnK_f, ↓call_H, ↓callK_H, ↓allT_nil, ↓allT_cons, ↓td_d, ↓st_tm, List.getD_cons_zero, List.getD_cons_succ, List.set_cons_zero, List.set_cons_succ, List.append_nil, List.all_cons, List.all_nil, Bool.true_and, Bool.and_self, Bool.true_or, Nat.reduceAdd, Nat.reduceSub, Nat.reduceMul, evK_go, reduceIte, Nat.reduceEqDiff, Nat.reduceLT, and_self, true_and]
        (repeat refine OrH.l ?_)
        cases h2 : decide (b ∈ way) with
        | true =>
          rw [h2, Bool.not_true, Bool.false_and] at hs
          simp (implicitDefEqProofs := false) (dsimp := false) only [↓cdK_true, ↓cdK_false, ↓gdK_t, ↓gval_mk, ↓gvL_zero, ↓gvL_succ, ↓aw_cond, ↓aw_skip, ↓aw_reg, ↓Qseq_n, ↓Qblk_n, ↓ops_nil, ↓ops_cons, ↓ops_guard, ↓eval_tmp, ↓eval_int, ↓eval_bool, ↓put_some, ↓bK_b, ↓binE_i, ↓bi_add, ↓in_i64, ↓op_move, ↓op_assign, ↓op_pick, ↓op_bin, ↓st_tm, List.getD_cons_zero, List.getD_cons_succ, List.set_cons_zero, List.set_cons_succ, Nat.reduceAdd, Nat.reduceSub, Nat.reduceMul, evK_go, reduceIte, Bool.not_true, Nat.reduceEqDiff, Nat.reduceLT]
          refine ⟨by omega, b + 1, ⟨by omega, hs⟩, by omega, ?_⟩
          refine Wkn.of [] [] ?_; simp (implicitDefEqProofs := false) (dsimp := false) only [List.set_cons_zero, List.set_cons_succ, Bool.and_self, Nat.reduceAdd, Nat.reduceSub, Nat.reduceMul, List.replicate, evK_go, reduceIte, Nat.reduceEqDiff, Nat.reduceLT, and_self, List.foldl_cons, List.foldl_nil, Int.cast_ofNat_Int, Int.natCast_add, slots, wkL_nil, wkL_cons, wkB_nil, wkR_nil, wkV_j, wkV_d, frz_d, reduceCtorEq]
        | false =>
          rw [h2, Bool.not_false, Bool.true_and] at hs hyes
          simp (implicitDefEqProofs := false) (dsimp := false) only [rbehind_callD, hw40, hc2, ↓cdK_true, ↓cdK_false, ↓gdK_t, ↓gval_mk, ↓gvL_zero, ↓gvL_succ, ↓aw_cond, ↓Qseq_n, ↓ops_nil, ↓ops_cons, ↓ops_guard, ↓eval_tmp, ↓eval_func, ↓put_some, ↓bK_b, ↓op_move, ↓op_pick, ↓op_call, isD_d, ↓fnK_f, ↓call_H, ↓callK_H, ↓allT_nil, ↓allT_cons, ↓td_d, ↓st_tm, List.getD_cons_zero, List.getD_cons_succ, List.set_cons_zero, List.set_cons_succ, List.append_nil, List.all_cons, List.all_nil, Bool.true_and, Bool.and_self, Bool.true_or, Nat.reduceAdd, Nat.reduceSub, Nat.reduceMul, evK_go, reduceIte, Bool.not_false, Nat.reduceEqDiff, Nat.reduceLT, and_self, true_and]
          (repeat refine OrH.l ?_)
          refine cdK_split (fun h3 => ?_) (fun h3 => ?_)
          · have e := hyes h3
            subst e
            simp (implicitDefEqProofs := false) (dsimp := false) only [↓aw_seq, ↓aw_ret, ↓aw_reg, ↓Qseq_n, ↓Qseq_r, ↓Qblk_r, ↓Qret_r, ↓ops_nil, ↓ops_cons, ↓eval_tmp, ↓eval_bool, ↓put_some, ↓op_assign, ↓td_d, ↓ret_1, List.getD_cons_zero, List.getD_cons_succ, List.set_cons_zero, List.set_cons_succ, Nat.reduceAdd, Nat.reduceSub, Nat.reduceMul, evK_go, reduceIte, Nat.reduceEqDiff, Nat.reduceLT]
          · rw [h3] at hs
            simp (implicitDefEqProofs := false) (dsimp := false) only [↓aw_skip, ↓aw_reg, ↓Qseq_n, ↓Qblk_n, ↓ops_nil, ↓ops_cons, ↓eval_tmp, ↓eval_int, ↓put_some, ↓binE_i, ↓bi_add, ↓in_i64, ↓op_move, ↓op_assign, ↓op_bin, List.getD_cons_zero, List.getD_cons_succ, List.set_cons_zero, List.set_cons_succ, Nat.reduceAdd, Nat.reduceSub, Nat.reduceMul, evK_go, reduceIte, Nat.reduceEqDiff, Nat.reduceLT]
            refine ⟨by omega, b + 1, ⟨by omega, hs⟩, by omega, ?_⟩
            refine Wkn.of [] [] ?_; simp (implicitDefEqProofs := false) (dsimp := false) only [List.set_cons_zero, List.set_cons_succ, Bool.and_self, Nat.reduceAdd, Nat.reduceSub, Nat.reduceMul, List.replicate, evK_go, reduceIte, Nat.reduceEqDiff, Nat.reduceLT, and_self, List.foldl_cons, List.foldl_nil, Int.cast_ofNat_Int, Int.natCast_add, slots, wkL_nil, wkL_cons, wkB_nil, wkR_nil, wkV_j, wkV_d, frz_d, reduceCtorEq]
theorem ring0_spec (n many a : Nat) (l : List (Int × Int)) (hpre : ((n ≤ 40 ∧ many ≤ 40) ∧ 1 ≤ many) ∧ l.length < 2 ^ 62) : FnD Tryd.prog 104 [I .i64 (n : Int), .l (l.map lnD), .l [I .i64 (a : Int)], I .i64 (many : Int)] (Bo (ringF n (besR l) (many - 1) [a])) := by
  exact ring_spec n many l hpre.1.1.1 hpre.1.1.2 hpre.2 (many - 1) [a] (by simp) (by simp; omega)
theorem ring0_call (n many a : Nat) (l : List (Int × Int)) (pure : Bool) (σ : St) (dst : Option Tmp) (K : St → Prop) : CallH Tryd.prog 104 [I .i64 (n : Int), .l (l.map lnD), .l [I .i64 (a : Int)], I .i64 (many : Int)] pure σ dst (.mk : Hid K) = OrH ((((n ≤ 40 ∧ many ≤ 40) ∧ 1 ≤ many) ∧ l.length < 2 ^ 62) ∧ (pure || D.flat (Bo (ringF n (besR l) (many - 1) [a]))) = true ∧ evK (σ.put dst (.d (Bo (ringF n (besR l) (many - 1) [a])))) (.mk : Hid K)) (.mk : Hid (CallH Tryd.prog 104 [I .i64 (n : Int), .l (l.map lnD), .l [I .i64 (a : Int)], I .i64 (many : Int)] pure σ dst (.mk : Hid K))) := CallH.eq (ring0_spec n many a l) pure σ dst K
theorem rring_spec (n many : Nat) (l : List (Int × Int)) (hpre : ((n ≤ 40 ∧ many ≤ 40) ∧ 1 ≤ many) ∧ l.length < 2 ^ 62) : FnD Tryd.prog 69 [I .i64 (n : Int), .l (l.map lnD), I .i64 (many : Int)] (Bo (ringR n (besR l) many)) := by
  have hl := hpre.2
  have hR : ringR n (besR l) many = (List.range n).any fun a => ringF n (besR l) (many - 1) [a] := rfl
  rw [hR]
  refine FnD.go Tryd.func69 rfl rfl Tryd.results69 Tryd.ntmps69 ?_
  simp (implicitDefEqProofs := false) (dsimp := false) only [↓aw_seq, ↓aw_block, ↓aw_loop, ↓aw_reg, ↓Qseq_n, ↓ops_nil, ↓ops_cons, ↓eval_int, ↓eval_bool, ↓put_some, ↓op_assign, List.set_cons_zero, List.set_cons_succ, List.cons_append, List.nil_append, List.map_cons, List.map_nil, List.length_cons, List.length_nil, Nat.reduceAdd, Nat.reduceSub, Nat.reduceMul, Nat.zero_add, List.replicate, evK_go, reduceIte, Nat.reduceEqDiff, Nat.reduceLT, Int.zero_add]
  generalize hres : ((List.range n).any fun a => ringF n (besR l) (many - 1) [a]) = res
  refine loopW (fun a : Nat => { tm := slots 19 [(0, .d (I .i64 (n : Int))), (1, .d (.l (l.map lnD))), (2, .d (I .i64 (many : Int))), (7, .d (I .i64 a))], bx := [], rw := [] })
    (fun a => a ≤ n ∧ ((List.range a).any fun a => ringF n (besR l) (many - 1) [a]) = false) (fun a => n - a) 0 ⟨by simp, by simp⟩ ?_ ?_
  · refine Wkn.of [] [] ?_; simp (implicitDefEqProofs := false) (dsimp := false) only [List.set_cons_zero, List.set_cons_succ, Bool.and_self, Nat.reduceAdd, Nat.reduceSub, Nat.reduceMul, List.replicate, evK_go, reduceIte, Nat.reduceEqDiff, Nat.reduceLT, and_self, List.foldl_cons, List.foldl_nil, Int.cast_ofNat_Int, slots, wkL_nil, wkL_cons, wkB_nil, wkR_nil, wkV_j, wkV_d, frz_d, reduceCtorEq]
  · rintro a ⟨ha, hno⟩
    simp (implicitDefEqProofs := false) (dsimp := false) only [slots, ↓aw_cond, ↓aw_seq, ↓aw_reg, ↓Qseq_n, ↓ops_nil, ↓ops_cons, ↓eval_tmp, ↓put_some, ↓bK_b, ↓binE_i, ↓bi_lss, ↓op_move, ↓op_bin, List.getD_cons_zero, List.getD_cons_succ, List.set_cons_zero, List.set_cons_succ, Nat.reduceAdd, Nat.reduceSub, Nat.reduceMul, List.replicate, evK_go, reduceIte, Nat.reduceEqDiff, Nat.reduceLT, List.foldl_cons, List.foldl_nil, Int.ofNat_lt]
    refine cdK_dec (fun h => ?_) (fun h => ?_)
    rotate_left
    · obtain rfl : a = n := by omega
      rw [hno] at hres
      subst hres
      simp (implicitDefEqProofs := false) (dsimp := false) only [↓aw_seq, ↓aw_exit, ↓aw_ret, ↓aw_reg, ↓Qseq_n, ↓Qseq_x, ↓Qblk_x, ↓Qret_r, ↓ops_nil, ↓ops_cons, ↓eval_tmp, ↓eval_bool, ↓put_some, ↓op_assign, ↓td_d, ↓ret_1, List.getD_cons_zero, List.getD_cons_succ, List.set_cons_zero, List.set_cons_succ, Nat.reduceAdd, Nat.reduceSub, Nat.reduceMul, evK_go, reduceIte, decide_false, Nat.reduceEqDiff, Nat.reduceLT, Nat.lt_irrefl]
    have han : a < n := by omega
    have hs : ((List.range (a + 1)).any fun a => ringF n (besR l) (many - 1) [a]) = ringF n (besR l) (many - 1) [a] := by
      rw [List.range_succ, List.any_append, hno, Bool.false_or, List.any_cons, List.any_nil, Bool.or_false]
    simp (implicitDefEqProofs := false) (dsimp := false) only [ring0_call n many a l, hpre, ↓aw_cond, ↓aw_seq, ↓aw_block, ↓aw_skip, ↓aw_reg, ↓Qseq_n, ↓ops_nil, ↓ops_cons, ↓eval_tmp, ↓eval_func, ↓put_some, ↓bK_b, ↓dK_d, ↓op_move, ↓op_call, isD_d, ↓fnK_f, ↓call_H, ↓callK_H, ↓allT_nil, ↓allT_cons, ↓allD_nil, ↓allD_cons, ↓td_d, ↓cells_c, ↓one_i, ↓bs_, ↓op_bs, ↓bsL_f, ↓stored_mk, ↓sl_nil, ↓sl_cons, ↓sT_move, ↓sT_bs, ↓sT_call, ↓vsz_int, ↓inO_1, ↓fm_nil, ↓fm_cons, ↓ty3, ↓zb3, ↓sl24, List.getD_cons_zero, List.getD_cons_succ, List.set_cons_zero, List.set_cons_succ, List.append_nil, List.map_cons, List.map_nil, List.length_cons, List.length_nil, List.all_cons, List.all_nil, Bool.true_and, Bool.and_self, Bool.true_or, Bool.or_false, Nat.reduceAdd, Nat.reduceSub, Nat.reduceMul, Nat.zero_add, evK_go, reduceIte, Nat.reduceEqDiff, Nat.reduceLT, and_self, true_and, Int.zero_add]
    (repeat (first | refine OrH.l ?_ | refine ⟨⟨rfl, by decide⟩, ?_⟩ | refine ⟨by decide, ?_⟩ | refine ⟨by omega, ?_⟩ | exact ⟨rfl, by decide⟩ | decide))
    refine cdK_split (fun h3 => ?_) (fun h3 => ?_)
    · have e : res = true := by
        rw [← hres, List.any_eq_true]
        exact ⟨a, List.mem_range.2 han, h3⟩
      subst e
      simp (implicitDefEqProofs := false) (dsimp := false) only [↓aw_seq, ↓aw_ret, ↓aw_reg, ↓Qseq_n, ↓Qseq_r, ↓Qblk_r, ↓Qret_r, ↓ops_nil, ↓ops_cons, ↓eval_tmp, ↓eval_bool, ↓put_some, ↓op_assign, ↓td_d, ↓ret_1, List.getD_cons_zero, List.getD_cons_succ, List.set_cons_zero, List.set_cons_succ, Nat.reduceAdd, Nat.reduceSub, Nat.reduceMul, evK_go, reduceIte, Nat.reduceEqDiff, Nat.reduceLT]
    · rw [h3] at hs
      simp (implicitDefEqProofs := false) (dsimp := false) only [↓aw_skip, ↓aw_reg, ↓Qseq_n, ↓Qblk_n, ↓ops_nil, ↓ops_cons, ↓eval_tmp, ↓eval_int, ↓put_some, ↓binE_i, ↓bi_add, ↓in_i64, ↓op_move, ↓op_assign, ↓op_bin, List.getD_cons_zero, List.getD_cons_succ, List.set_cons_zero, List.set_cons_succ, Nat.reduceAdd, Nat.reduceSub, Nat.reduceMul, evK_go, reduceIte, Nat.reduceEqDiff, Nat.reduceLT]
      refine ⟨by omega, a + 1, ⟨by omega, hs⟩, by omega, ?_⟩
      refine Wkn.of [] [] ?_; simp (implicitDefEqProofs := false) (dsimp := false) only [List.set_cons_zero, List.set_cons_succ, Bool.and_self, Nat.reduceAdd, Nat.reduceSub, Nat.reduceMul, List.replicate, evK_go, reduceIte, Nat.reduceEqDiff, Nat.reduceLT, and_self, List.foldl_cons, List.foldl_nil, Int.cast_ofNat_Int, Int.natCast_add, slots, wkL_nil, wkL_cons, wkB_nil, wkR_nil, wkV_j, wkV_d, frz_d, reduceCtorEq]
theorem rring_call (n many : Nat) (l : List (Int × Int)) (pure : Bool) (σ : St) (dst : Option Tmp) (K : St → Prop) : CallH Tryd.prog 69 [I .i64 (n : Int), .l (l.map lnD), I .i64 (many : Int)] pure σ dst (.mk : Hid K) = OrH ((((n ≤ 40 ∧ many ≤ 40) ∧ 1 ≤ many) ∧ l.length < 2 ^ 62) ∧ (pure || D.flat (Bo (ringR n (besR l) many))) = true ∧ evK (σ.put dst (.d (Bo (ringR n (besR l) many)))) (.mk : Hid K)) (.mk : Hid (CallH Tryd.prog 69 [I .i64 (n : Int), .l (l.map lnD), I .i64 (many : Int)] pure σ dst (.mk : Hid K))) := CallH.eq (rring_spec n many l) pure σ dst K
end Go.Proofs

namespace Go.Proofs
open Go.Aw
set_option linter.unusedSimpArgs false
set_option maxRecDepth 10000
set_option maxHeartbeats 2000000
theorem rpart_spec (n : Int) (l : List (Int × Int)) (hpre : chk n l = 0 ∧ l.length < 2 ^ 62) : FnD Tryd.prog 70 [I .i64 n, .l (l.map lnD)] (.t [.l ((halfR n l).map (I .i64)), Bo (decide (halfE n l = 0))]) := by
  obtain ⟨hc, hl⟩ := hpre
  have ok := chk_ok hc
  have hgo := goes_nat ok
  have hget := fun k (hk : k < l.length) => natL_get ok hk
  obtain ⟨m, rfl⟩ : ∃ m : Nat, n = (m : Int) := ⟨n.toNat, ok.n0⟩
  have hg : Good m (natL l) := by simpa using ok.good
  have hi8 : m ≤ 8 := by simpa using ok.hi
  have hLl : (natL l).length = l.length := by unfold natL; simp
  have e1 : halfR (m : Int) l = if halfOk m (natL l) = true then halfL m (natL l) else [] := by unfold halfR; rw [if_pos hc, Int.toNat_natCast]
  have e2 : decide (halfE (m : Int) l = 0) = halfOk m (natL l) := by
    unfold halfE
    rw [if_pos hc, Int.toNat_natCast]
    cases halfOk m (natL l) <;> rfl
  rw [e1, e2]
  clear ok e1 e2 hc
  generalize natL l = L at *
  have hn64 : m ≤ 64 := by omega
  obtain ⟨hp1, hp2⟩ := hpR_eq (n := m) hn64 hgo hg
  have hfs := fun i j (hi : i < m) (hj : j < m) => far_sym (n := m) hgo hg hi hj
  have hroot : ∀ i, i < m → rootP m L i < m ∧ Path (symL L) i (rootP m L i) ∧ ∀ k, k < m → Path (symL L) i k → rootP m L i ≤ k := fun i hi => by
    obtain ⟨a1, a2⟩ := root_spec hn64 hg hi
    exact ⟨by omega, sym_path a2, fun k hk hp => (low_spec ((rs_bit hn64 (symL_good hg) hi k).2 hp) (by omega)).2.2⟩
  have hfp : m ≤ 40 ∧ l.length < 2 ^ 62 := ⟨by omega, hl⟩
  have hlr : (List.range m).length = m := List.length_range
  have hFF : farK m (far0 l true (-1)) m = ffR m l true (-1) := rfl
  rw [hFF] at hp1 hp2
  simp (implicitDefEqProofs := false) (dsimp := false) only [hFF] at hfs
  have hOl : (hpR m (ffR m l true (-1)) L).length = m := by simp [hpR]
  have hOg : ∀ i, i < m → (hpR m (ffR m l true (-1)) L).getD i default = ffR m l true (-1) i (rootP m L i) % 2 := fun i hi => range_getD _ hi
  have hokd : ∀ p ∈ L, hpOk (hpR m (ffR m l true (-1)) L) L = true → (hpR m (ffR m l true (-1)) L).getD p.1 default ≠ (hpR m (ffR m l true (-1)) L).getD p.2 default := fun p hp h => by
    unfold hpOk at h
    rw [List.all_eq_true] at h
    have := h p hp
    rw [Bool.not_eq_true', decide_eq_false_iff_not] at this
    exact this
  have hall : (∀ k, k < l.length → (hpR m (ffR m l true (-1)) L).getD (L.getD k default).1 default ≠ (hpR m (ffR m l true (-1)) L).getD (L.getD k default).2 default) → hpOk (hpR m (ffR m l true (-1)) L) L = true := fun h => by
    unfold hpOk
    rw [List.all_eq_true]
    intro p hp
    obtain ⟨k, hk, e⟩ := List.mem_iff_getElem.1 hp
    have := h k (by omega)
    rw [List.getD_eq_getElem?_getD (l := L), List.getElem?_eq_getElem hk, Option.getD_some, e] at this
    rw [Bool.not_eq_true', decide_eq_false_iff_not]; exact this
  refine FnD.go Tryd.func70 rfl rfl Tryd.results70 Tryd.ntmps70 ?_
  simp (implicitDefEqProofs := false) (dsimp := false) only [↓aw_seq, ↓aw_reg, ↓Qseq_n, ↓ops_nil, ↓ops_cons, ↓eval_tmp, ↓eval_int, ↓eval_bool, ↓eval_nil, ↓eval_func, ↓put_some, ↓op_move, ↓op_assign, ↓op_call, isD_d, ↓fnK_f, ↓call_H, ↓callK_H, ↓allT_nil, ↓allT_cons, ↓td_d, List.getD_cons_zero, List.getD_cons_succ, List.set_cons_zero, List.set_cons_succ, List.cons_append, List.nil_append, List.append_nil, List.map_cons, List.map_nil, List.length_cons, List.length_nil, List.all_cons, List.all_nil, Bool.and_self, Nat.reduceAdd, Nat.reduceSub, Nat.reduceMul, Nat.zero_add, List.replicate, evK_go, reduceIte, Nat.reduceEqDiff, Nat.reduceLT, and_self, Int.zero_add]
  simp (implicitDefEqProofs := false) (dsimp := false) only [rfar_call, hfp, ↓aw_seq, ↓aw_block, ↓aw_loop, ↓aw_reg, ↓Qseq_n, ↓ops_nil, ↓ops_cons, ↓eval_tmp, ↓eval_int, ↓eval_nil, ↓put_some, ↓op_assign, List.getD_cons_zero, List.getD_cons_succ, List.set_cons_zero, List.set_cons_succ, Bool.true_and, Bool.and_self, Bool.true_or, Nat.reduceAdd, Nat.reduceSub, Nat.reduceMul, evK_go, reduceIte, Nat.reduceEqDiff, Nat.reduceLT, and_self, true_and]
  (repeat refine OrH.l ?_)
  generalize hpR m (ffR m l true (-1)) L = O at *
  generalize ffR m l true (-1) = F at *
  refine loopW (fun i : Nat => { tm := slots 64 [(0, .d (I .i64 (m : Int))), (1, .d (.l (l.map lnD))), (6, .d (.l ((List.range m).map fun a => .l (ffRow m (F a))))), (7, .o 0 0 i), (8, .d (I .i64 i))], bx := [], rw := [some ⟨1, (O.take i).map (I .i64)⟩] })
    (fun i => i ≤ m) (fun i => m - i) 0 (by simp) ?_ ?_
  · refine Wkn.of [] [none] ?_
    simp (implicitDefEqProofs := false) (dsimp := false) only [List.take_zero, List.map_nil, ffRow, ↓row_xs, List.set_cons_zero, List.set_cons_succ, List.map_nil, Bool.and_self, Nat.reduceAdd, Nat.reduceSub, Nat.reduceMul, List.replicate, evK_go, reduceIte, Nat.reduceEqDiff, Nat.reduceLT, and_self, List.take_zero, List.foldl_cons, List.foldl_nil, Int.cast_ofNat_Int, slots, wkL_nil, wkL_cons, wkB_nil, wkR_nil, wkR_new, wkV_j, wkV_d, nlK_nl, wkV_o, frz_d, oK_zn, reduceCtorEq]
  · intro i hi
    have htl : (O.take i).length = i := by rw [List.length_take]; omega
    simp (implicitDefEqProofs := false) (dsimp := false) only [slots, ↓aw_cond, ↓aw_seq, ↓aw_reg, ↓Qseq_n, ↓ops_nil, ↓ops_cons, ↓eval_tmp, ↓put_some, ↓bK_b, ↓binE_i, ↓bi_lss, ↓op_move, ↓op_bin, List.getD_cons_zero, List.getD_cons_succ, List.set_cons_zero, List.set_cons_succ, Nat.reduceAdd, Nat.reduceSub, Nat.reduceMul, List.replicate, evK_go, reduceIte, Nat.reduceEqDiff, Nat.reduceLT, List.foldl_cons, List.foldl_nil, Int.ofNat_lt]
    refine cdK_dec (fun h => ?_) (fun h => ?_)
    rotate_left
    · obtain rfl : i = m := by omega
      have htO : O.take i = O := List.take_of_length_le (by omega)
      have htO2 : List.take i (O.map (I .i64)) = O.map (I .i64) := List.take_of_length_le (by simp [hOl])
      simp (implicitDefEqProofs := false) (dsimp := false) only [htO, ↓aw_seq, ↓aw_block, ↓aw_exit, ↓aw_loop, ↓aw_reg, ↓Qseq_n, ↓Qseq_x, ↓Qblk_x, ↓ops_nil, ↓ops_cons, ↓eval_int, ↓put_some, ↓op_assign, List.set_cons_zero, List.set_cons_succ, Nat.reduceAdd, Nat.reduceSub, Nat.reduceMul, evK_go, reduceIte, decide_false, Nat.reduceEqDiff, Nat.reduceLT, Nat.lt_irrefl]
      refine loopW (fun k : Nat => { tm := slots 64 [(1, .d (.l (l.map lnD))), (7, .d (.l (O.map (I .i64)))), (10, .d (I .i64 k))], bx := [], rw := [] })
        (fun k => k ≤ l.length ∧ ∀ j, j < k → O.getD (L.getD j default).1 default ≠ O.getD (L.getD j default).2 default) (fun k => l.length - k) 0 ⟨by simp, by simp⟩ ?_ ?_
      · refine Wkn.of [] [] ?_
        simp (implicitDefEqProofs := false) (dsimp := false) only [htO2, ↓optK_some, ↓row_xs, List.getD_cons_zero, List.set_cons_zero, List.set_cons_succ, Bool.and_self, Nat.reduceAdd, Nat.reduceSub, Nat.reduceMul, List.replicate, evK_go, reduceIte, Nat.reduceEqDiff, Nat.reduceLT, and_self, not_false_eq_true, List.drop_zero, List.foldl_cons, List.foldl_nil, Int.cast_ofNat_Int, slots, wkL_nil, wkL_cons, wkB_nil, wkR_nil, wkV_j, wkV_d, frz_d, frz_o, dl_eq, reduceCtorEq, List.not_mem_nil]
      · rintro k ⟨hk, hno⟩
        simp (implicitDefEqProofs := false) (dsimp := false) only [slots, ↓aw_cond, ↓aw_seq, ↓aw_reg, ↓Qseq_n, ↓ops_nil, ↓ops_cons, ↓eval_tmp, ↓put_some, ↓bK_b, ↓lenK_l, ↓binE_i, ↓bi_lss, ↓op_move, ↓op_bin, ↓op_len, ↓sl22, List.getD_cons_zero, List.getD_cons_succ, List.set_cons_zero, List.set_cons_succ, List.length_map, Nat.reduceAdd, Nat.reduceSub, Nat.reduceMul, List.replicate, evK_go, reduceIte, Nat.reduceEqDiff, Nat.reduceLT, List.foldl_cons, List.foldl_nil, Int.ofNat_lt]
        refine cdK_dec (fun h => ?_) (fun h => ?_)
        · have hkl : k < l.length := by omega
          have hkL : k < L.length := by omega
          have hpm := getD_mem hkL
          obtain ⟨hA, hB⟩ := hg _ hpm
          have hgk := hget k hkl
          have hok := hokd _ hpm
          have hstep : O.getD (L.getD k default).1 default ≠ O.getD (L.getD k default).2 default → ∀ j, j < k + 1 → O.getD (L.getD j default).1 default ≠ O.getD (L.getD j default).2 default := fun h j hj => by
            by_cases e : j = k
            · subst e; exact h
            · exact hno j (by omega)
          generalize L.getD k default = p at hpm hA hB hgk hok hstep
          have hAN : p.1 < O.length := by omega
          have hBN : p.2 < O.length := by omega
          simp (implicitDefEqProofs := false) (dsimp := false) only [hkl, hgk, lnD, hAN, hBN, ↓atK_H, ↓atH_map, ↓aw_cond, ↓aw_seq, ↓aw_block, ↓aw_skip, ↓aw_draw, ↓Qseq_n, ↓eval_tmp, ↓put_some, ↓bK_b, ↓iK_i, ↓ev_move, ↓ev_load, ↓ev_bin, ↓ev_fa, ↓ev_ia, ↓binE_i, ↓bi_eql, ↓ldK_q, ↓faK_q, ↓iaK_l, ↓draw_H, ↓h_nil, ↓h_cons, ↓ldH_n, ↓q_move, ↓q_load, ↓q_bin, ↓q_fa, ↓q_ia, ↓il_move, ↓il_load, ↓il_bin, ↓il_fa, ↓il_ia, ↓cells_c, ↓cells_s, ↓hd_cons, ↓ty3, ↓sl22, ↓sl24, ↓ty41, ↓fd41_0, ↓fd41_1, List.getD_cons_zero, List.getD_cons_succ, List.set_cons_zero, List.set_cons_succ, List.length_cons, List.length_nil, Bool.true_and, Nat.reduceAdd, Nat.reduceSub, Nat.reduceMul, Nat.zero_add, Int.toNat_natCast, evK_go, reduceIte, decide_true, Nat.reduceEqDiff, Nat.reduceLT, true_and, ne_eq, Int.zero_add, List.drop_zero, List.drop_succ_cons, Int.natCast_nonneg]
          refine OrH.l ⟨DrawH.of follows_mixed (by kernel_rfl), ?_⟩
          refine cdK_dec (fun h3 => ?_) (fun h3 => ?_)
          · have hf : halfOk i L = false := by
              rw [← hp1, ← Bool.not_eq_true]
              exact fun h => hok h h3
            simp (implicitDefEqProofs := false) (dsimp := false) only [hf, Bool.false_eq_true, if_false, List.map_nil, ↓aw_seq, ↓aw_ret, ↓aw_reg, ↓Qseq_n, ↓Qseq_r, ↓Qblk_r, ↓Qret_r, ↓ops_nil, ↓ops_cons, ↓eval_tmp, ↓eval_bool, ↓eval_nil, ↓put_some, ↓op_assign, ↓td_d, ↓td_nl, ↓ret_2, List.getD_cons_zero, List.getD_cons_succ, List.set_cons_zero, List.set_cons_succ, List.map_nil, Nat.reduceAdd, Nat.reduceSub, Nat.reduceMul, evK_go, reduceIte, Nat.reduceEqDiff, Nat.reduceLT]
          · simp (implicitDefEqProofs := false) (dsimp := false) only [↓aw_skip, ↓aw_reg, ↓Qseq_n, ↓Qblk_n, ↓ops_nil, ↓ops_cons, ↓eval_tmp, ↓eval_int, ↓put_some, ↓binE_i, ↓bi_add, ↓in_i64, ↓op_move, ↓op_assign, ↓op_bin, List.getD_cons_zero, List.getD_cons_succ, List.set_cons_zero, List.set_cons_succ, Nat.reduceAdd, Nat.reduceSub, Nat.reduceMul, evK_go, reduceIte, Nat.reduceEqDiff, Nat.reduceLT]
            refine ⟨by omega, k + 1, ⟨by omega, hstep h3⟩, by omega, ?_⟩
            refine Wkn.of [] [] ?_; simp (implicitDefEqProofs := false) (dsimp := false) only [List.set_cons_zero, List.set_cons_succ, Bool.and_self, Nat.reduceAdd, Nat.reduceSub, Nat.reduceMul, List.replicate, evK_go, reduceIte, Nat.reduceEqDiff, Nat.reduceLT, and_self, List.foldl_cons, List.foldl_nil, Int.cast_ofNat_Int, Int.natCast_add, slots, wkL_nil, wkL_cons, wkB_nil, wkR_nil, wkV_j, wkV_d, frz_d, reduceCtorEq]
        · have hf : halfOk i L = true := by
            rw [← hp1]
            exact hall fun j hj => hno j (by omega)
          have hE := hp2 hf
          simp (implicitDefEqProofs := false) (dsimp := false) only [hf, if_true, ← hE, ↓aw_seq, ↓aw_exit, ↓aw_ret, ↓aw_reg, ↓Qseq_n, ↓Qseq_x, ↓Qblk_x, ↓Qret_r, ↓ops_nil, ↓ops_cons, ↓eval_tmp, ↓eval_bool, ↓put_some, ↓op_move, ↓op_assign, ↓td_d, ↓ret_2, List.getD_cons_zero, List.getD_cons_succ, List.set_cons_zero, List.set_cons_succ, Nat.reduceAdd, Nat.reduceSub, Nat.reduceMul, evK_go, reduceIte, Nat.reduceEqDiff, Nat.reduceLT]
    have hin : i < m := by omega
    have hri := rng_getD hin
    obtain ⟨hr1, hr2, hr3⟩ := hroot i hin
    have hOi := hOg i hin
    have hsnoc := take_succ_getD (l := O) (k := i) (by omega)
    rw [hOi] at hsnoc
    simp (implicitDefEqProofs := false) (dsimp := false) only [↓aw_seq, ↓aw_block, ↓aw_skip, ↓aw_loop, ↓aw_reg, ↓Qseq_n, ↓ops_nil, ↓ops_cons, ↓eval_int, ↓put_some, ↓op_assign, List.set_cons_zero, List.set_cons_succ, Nat.reduceAdd, Nat.reduceSub, Nat.reduceMul, evK_go, reduceIte, Nat.reduceEqDiff, Nat.reduceLT]
    refine loopX (fun k : Nat => { tm := slots 64 [(0, .d (I .i64 (m : Int))), (1, .d (.l (l.map lnD))), (6, .d (.l ((List.range m).map fun a => .l (ffRow m (F a))))), (7, .o 0 0 i), (8, .d (I .i64 i)), (9, .d (I .i64 k))], bx := [], rw := [some ⟨1, (O.take i).map (I .i64)⟩] })
      (fun k => k ≤ rootP m L i) (fun k => rootP m L i - k) 2 (fun _ : Unit => { tm := slots 64 [(0, .d (I .i64 (m : Int))), (1, .d (.l (l.map lnD))), (6, .d (.l ((List.range m).map fun a => .l (ffRow m (F a))))), (7, .o 0 0 i), (8, .d (I .i64 i)), (9, .d (I .i64 (rootP m L i : Nat)))], bx := [], rw := [some ⟨1, (O.take i).map (I .i64)⟩] }) (fun _ => True) 0 (by simp) ?_ ?_ ?_
    · refine Wkn.of [] [some 0] ?_
      simp (implicitDefEqProofs := false) (dsimp := false) only [ffRow, List.getD_cons_zero, List.set_cons_zero, List.set_cons_succ, Bool.and_self, Nat.reduceAdd, Nat.reduceSub, Nat.reduceMul, List.replicate, evK_go, reduceIte, Nat.reduceEqDiff, Nat.reduceLT, and_self, List.foldl_cons, List.foldl_nil, Int.cast_ofNat_Int, slots, wkL_nil, wkL_cons, wkB_nil, wkR_nil, wkR_some, wkV_j, wkV_d, wkV_o, frz_d, oK_zs, reduceCtorEq]
    · intro k hk
      have hkn : k < m := by omega
      have hrk := rng_getD hkn
      have f1 := (hfs i k hin hkn).1
      simp (implicitDefEqProofs := false) (dsimp := false) only [slots, hin, hkn, hlr, hri, hrk, ffRow, ↓atK_H, ↓atH_map, ↓aw_cond, ↓aw_seq, ↓aw_reg, ↓Qseq_n, ↓ops_nil, ↓ops_cons, ↓eval_tmp, ↓eval_int, ↓put_some, ↓bK_b, ↓iK_i, ↓binE_i, ↓bi_lss, ↓ldK_q, ↓iaK_l, ↓op_move, ↓op_load, ↓op_bin, ↓op_ia, ↓cells_c, ↓cells_l, ↓hd_cons, ↓ty3, ↓ty24, ↓sl24, ↓sl69, List.getD_cons_zero, List.getD_cons_succ, List.set_cons_zero, List.set_cons_succ, List.length_cons, List.length_nil, Bool.true_and, Nat.reduceAdd, Nat.reduceSub, Nat.reduceMul, Nat.zero_add, Int.toNat_natCast, List.replicate, evK_go, reduceIte, Nat.reduceEqDiff, Nat.reduceLT, true_and, Int.zero_add, List.foldl_cons, List.foldl_nil, Int.natCast_nonneg]
      refine cdK_dec (fun h1 => ?_) (fun h1 => ?_)
      · have hne : k ≠ rootP m L i := fun e => by
          have := f1.2 (by rw [e]; exact hr2)
          omega
        simp (implicitDefEqProofs := false) (dsimp := false) only [↓aw_block, ↓aw_skip, ↓aw_reg, ↓Qseq_n, ↓Qblk_n, ↓ops_nil, ↓ops_cons, ↓eval_tmp, ↓eval_int, ↓put_some, ↓binE_i, ↓bi_add, ↓in_i64, ↓op_move, ↓op_assign, ↓op_bin, List.getD_cons_zero, List.getD_cons_succ, List.set_cons_zero, List.set_cons_succ, Nat.reduceAdd, Nat.reduceSub, Nat.reduceMul, evK_go, reduceIte, Nat.reduceEqDiff, Nat.reduceLT]
        refine ⟨by omega, k + 1, by omega, by omega, ?_⟩
        refine Wkn.of [] [some 0] ?_
        simp (implicitDefEqProofs := false) (dsimp := false) only [ffRow, List.getD_cons_zero, List.set_cons_zero, List.set_cons_succ, Bool.and_self, Nat.reduceAdd, Nat.reduceSub, Nat.reduceMul, List.replicate, evK_go, reduceIte, Nat.reduceEqDiff, Nat.reduceLT, and_self, List.foldl_cons, List.foldl_nil, Int.cast_ofNat_Int, Int.natCast_add, slots, wkL_nil, wkL_cons, wkB_nil, wkR_nil, wkR_some, wkV_j, wkV_d, wkV_o, frz_d, oK_zs, reduceCtorEq]
      · have hge := hr3 k hkn (f1.1 (by omega))
        obtain rfl : k = rootP m L i := by omega
        simp (implicitDefEqProofs := false) (dsimp := false) only [QX, ↓optK_some, ↓rwK_H, ↓atK_H, ↓atH_map, ↓aw_seq, ↓aw_block, ↓aw_exit, ↓aw_loop, ↓aw_reg, ↓Qseq_n, ↓Qseq_x, ↓Qblk_n, ↓Qblk_x, ↓ops_nil, ↓ops_cons, ↓eval_tmp, ↓eval_int, ↓put_some, ↓iK_i, ↓dK_d, ↓binE_i, ↓bi_add, ↓bi_rem, ↓in_i64, ↓ldK_q, ↓iaK_l, ↓op_move, ↓op_assign, ↓op_load, ↓op_bin, ↓op_ia, ↓op_append, ↓allD_nil, ↓allD_cons, ↓app_mk, ↓row_sz, ↓row_xs, kill_d, kill_j, kill_o, ↓cells_c, ↓cells_l, ↓one_i, ↓ap_, ↓ap_o, ↓src_l, ↓bs_, ↓op_bs, ↓bsL_f, ↓stored_mk, ↓sl_nil, ↓sl_cons, ↓sT_move, ↓sT_assign, ↓sT_load, ↓sT_bin, ↓sT_ia, ↓sT_bs, ↓sT_call, ↓vsz_int, ↓inO_1, ↓fm_nil, ↓fm_cons, ↓hd_cons, ↓ty3, ↓zb3, ↓ty24, ↓sl24, ↓sl69, List.getD_cons_zero, List.getD_cons_succ, List.set_cons_zero, List.set_cons_succ, List.map_cons, List.map_nil, List.length_cons, List.length_nil, List.length_map, List.all_cons, List.all_nil, Bool.true_and, Bool.and_self, Bool.or_false, Nat.reduceAdd, Nat.reduceSub, Nat.reduceMul, Nat.zero_add, Int.toNat_natCast, evK_go, reduceIte, Nat.reduceEqDiff, Nat.reduceLT, and_self, true_and, Int.zero_add, List.drop_zero, Int.natCast_nonneg]
        refine ⟨(), ?_⟩
        refine Wkn.of [] [some 0] ?_
        simp (implicitDefEqProofs := false) (dsimp := false) only [ffRow, List.getD_cons_zero, List.set_cons_zero, List.set_cons_succ, Bool.and_self, Nat.reduceAdd, Nat.reduceSub, Nat.reduceMul, List.replicate, evK_go, reduceIte, Nat.reduceEqDiff, Nat.reduceLT, and_self, List.foldl_cons, List.foldl_nil, slots, wkL_nil, wkL_cons, wkB_nil, wkR_nil, wkR_some, wkV_j, wkV_d, wkV_o, frz_d, oK_zs, reduceCtorEq]
    · intro _ _
      have hpos := (hfs i (rootP m L i) hin hr1).1.2 hr2
      have hrr := rng_getD hr1
      simp (implicitDefEqProofs := false) (dsimp := false) only [slots, htl, hin, hr1, hlr, hri, hrr, ffRow, ↓optK_some, ↓rwK_H, ↓atK_H, ↓atH_map, ↓aw_seq, ↓aw_block, ↓aw_loop, ↓aw_reg, ↓Qseq_n, ↓Qseq_x, ↓Qblk_n, ↓Qblk_x, ↓ops_nil, ↓ops_cons, ↓eval_tmp, ↓eval_int, ↓put_some, ↓iK_i, ↓dK_d, ↓binE_i, ↓bi_add, ↓bi_rem, ↓in_i64, ↓ldK_q, ↓iaK_l, ↓op_move, ↓op_assign, ↓op_load, ↓op_bin, ↓op_ia, ↓op_append, ↓allD_nil, ↓allD_cons, ↓app_mk, ↓row_sz, ↓row_xs, kill_d, kill_j, kill_o, ↓cells_c, ↓cells_l, ↓one_i, ↓ap_, ↓ap_o, ↓src_l, ↓bs_, ↓op_bs, ↓bsL_f, ↓stored_mk, ↓sl_nil, ↓sl_cons, ↓sT_move, ↓sT_assign, ↓sT_load, ↓sT_bin, ↓sT_ia, ↓sT_bs, ↓sT_call, ↓vsz_int, ↓inO_1, ↓fm_nil, ↓fm_cons, ↓hd_cons, ↓ty3, ↓zb3, ↓ty24, ↓sl24, ↓sl69, List.getD_cons_zero, List.getD_cons_succ, List.set_cons_zero, List.set_cons_succ, List.map_cons, List.map_nil, List.length_cons, List.length_nil, List.length_map, List.all_cons, List.all_nil, Bool.true_and, Bool.and_self, Bool.or_false, Nat.reduceAdd, Nat.reduceSub, Nat.reduceMul, Nat.zero_add, Int.toNat_natCast, List.replicate, evK_go, reduceIte, Nat.reduceEqDiff, Nat.reduceLT, and_self, true_and, Int.zero_add, List.drop_zero, List.foldl_cons, List.foldl_nil, Int.natCast_nonneg]
      refine ⟨⟨hpos, by decide⟩, by decide, ⟨fun _ => trivial, by omega, by omega⟩, by omega, i + 1, by omega, by omega, ?_⟩
      refine Wkn.of [] [some 0] ?_
      simp (implicitDefEqProofs := false) (dsimp := false) only [hsnoc, List.map_append, List.getD_cons_zero, List.map_cons, List.map_nil, Bool.and_self, Nat.reduceAdd, Nat.reduceSub, Nat.reduceMul, evK_go, reduceIte, Nat.reduceEqDiff, Nat.reduceLT, and_self, Int.cast_ofNat_Int, Int.natCast_add, slots, wkL_nil, wkL_cons, wkB_nil, wkR_nil, wkR_some, wkV_j, wkV_d, wkV_o, frz_d, oK_zs, reduceCtorEq]
theorem rpart_call (n : Int) (l : List (Int × Int)) (pure : Bool) (σ : St) (dst : Option Tmp) (K : St → Prop) : CallH Tryd.prog 70 [I .i64 n, .l (l.map lnD)] pure σ dst (.mk : Hid K) = OrH ((chk n l = 0 ∧ l.length < 2 ^ 62) ∧ (pure || D.flat (.t [.l ((halfR n l).map (I .i64)), Bo (decide (halfE n l = 0))])) = true ∧ evK (σ.put dst (.d (.t [.l ((halfR n l).map (I .i64)), Bo (decide (halfE n l = 0))]))) (.mk : Hid K)) (.mk : Hid (CallH Tryd.prog 70 [I .i64 n, .l (l.map lnD)] pure σ dst (.mk : Hid K))) := CallH.eq (rpart_spec n l) pure σ dst K
end Go.Proofs

namespace Go.Proofs
open Go.Aw
set_option linter.unusedSimpArgs false
set_option maxRecDepth 10000
set_option maxHeartbeats 4000000
theorem lHalvesSays_spec (n : Int) (l : List (Int × Int)) (hn : -9223372036854775808 ≤ n ∧ n ≤ 9223372036854775807) (hl : l.length < 2 ^ 43) : FnD Tryd.prog 17 [I .i64 n, .l (l.map lnD)] (Bo true) := by
  have hl62 : l.length < 2 ^ 62 := by omega
  have hz : ((0 : Nat) : Int) = 0 := rfl
  have h00 : decide ((0 : Int) = 0) = true := by decide
  have h50 : decide ((5 : Int) = 0) = false := by decide
  refine FnD.go Tryd.func17 rfl rfl Tryd.results17 Tryd.ntmps17 ?_
  simp (implicitDefEqProofs := false) (dsimp := false) only [↓aw_seq, ↓aw_reg, ↓Qseq_n, ↓ops_nil, ↓ops_cons, ↓eval_tmp, ↓eval_bool, ↓eval_func, ↓put_some, ↓op_move, ↓op_assign, ↓op_call, isD_d, ↓fnK_f, ↓call_H, ↓callK_H, ↓allT_nil, ↓allT_cons, ↓td_d, List.getD_cons_zero, List.getD_cons_succ, List.set_cons_zero, List.set_cons_succ, List.cons_append, List.nil_append, List.append_nil, List.map_cons, List.map_nil, List.length_cons, List.length_nil, List.all_cons, List.all_nil, Bool.and_self, Nat.reduceAdd, Nat.reduceSub, Nat.reduceMul, Nat.zero_add, List.replicate, evK_go, reduceIte, Nat.reduceEqDiff, Nat.reduceLT, and_self, Int.zero_add]
  simp (implicitDefEqProofs := false) (dsimp := false) only [lines_call, hl62, ↓aw_cond, ↓aw_seq, ↓aw_reg, ↓Qseq_n, ↓ops_nil, ↓ops_cons, ↓eval_tmp, ↓eval_int, ↓eval_nil, ↓put_some, ↓bK_b, ↓binE_i, ↓bi_eql, ↓op_move, ↓op_assign, ↓op_bin, List.getD_cons_zero, List.getD_cons_succ, List.set_cons_zero, List.set_cons_succ, Bool.true_and, Bool.true_or, Nat.reduceAdd, Nat.reduceSub, Nat.reduceMul, evK_go, reduceIte, Nat.reduceEqDiff, Nat.reduceLT, true_and]
  (repeat refine OrH.l ?_)
  refine cdK_dec (fun hc => ?_) (fun hc => ?_)
  rotate_left
  · have e1 : halfE n l = chk n l := if_neg hc
    have e2 : halfR n l = [] := if_neg hc
    have e3 : oddR n l = 0 := if_neg hc
    simp (implicitDefEqProofs := false) (dsimp := false) only [hpart_call, hodd_call, hl62, e1, e2, e3, hz, eerr_call, ints00_call, ↓cdK_true, ↓gdK_t, ↓gval_mk, ↓gvL_zero, ↓gvL_succ, ↓nthK_H, ↓nthH_zero, ↓nthH_succ, ↓aw_seq, ↓aw_ret, ↓aw_skip, ↓aw_reg, ↓Qseq_n, ↓Qret_r, ↓ops_nil, ↓ops_cons, ↓ops_guard, ↓eval_tmp, ↓eval_func, ↓put_some, ↓bK_b, ↓tK_t, ↓binE_i, ↓bi_eql, ↓op_move, ↓op_assign, ↓op_pick, ↓op_bin, ↓op_extract, ↓op_call, ↓orH_T, isD_d, isD_nl, ↓fnK_f, ↓call_H, ↓callK_H, ↓allT_nil, ↓allT_cons, ↓td_d, ↓td_nl, ↓ret_1, ↓st_tm, List.getD_cons_zero, List.getD_cons_succ, List.set_cons_zero, List.set_cons_succ, List.append_nil, List.map_nil, List.all_cons, List.all_nil, Bool.and_self, Bool.true_or, Nat.reduceAdd, Nat.reduceSub, Nat.reduceMul, evK_go, reduceIte, decide_true, Nat.reduceEqDiff, Nat.reduceLT, and_self]
    (repeat (first | refine OrH.l ?_ | refine ⟨⟨rfl, by decide⟩, ?_⟩ | refine ⟨by decide, ?_⟩ | refine ⟨by omega, ?_⟩ | exact ⟨rfl, by decide⟩ | decide))
  have ok := chk_ok hc
  have hgo := goes_nat ok
  obtain ⟨m, rfl⟩ : ∃ m : Nat, n = (m : Int) := ⟨n.toNat, ok.n0⟩
  have hg : Good m (natL l) := by simpa using ok.good
  have hi8 : m ≤ 8 := by simpa using ok.hi
  have hpr : chk (m : Int) l = 0 ∧ l.length < 2 ^ 62 := ⟨hc, hl62⟩
  have hloop : ∀ a, (a, a) ∉ natL l := fun a h => ok.ne _ h rfl
  have hb : ∀ a b, besR l a b = true ↔ (a, b) ∈ symL (natL l) := fun a b => by
    unfold besR
    rw [Bool.or_eq_true, decide_eq_true_eq, decide_eq_true_eq, hgo, hgo, symL_mem]
  have hn64 : m ≤ 64 := by omega
  have hge := fun k (h1 : k ≤ m) (h2 : k % 2 = 1) (h3 : ringR m (besR l) k = true) => ring_ge hn64 hg hb h1 h2 h3
  have hod := ring_odd hn64 hg hloop hb
  have e3 : oddR (m : Int) l = oddN m (outS m (symL (natL l))) := by unfold oddR; rw [if_pos hc, Int.toNat_natCast]
  rw [← e3] at hge hod
  have h5 : (halfE (m : Int) l = 0) ∨ (halfE (m : Int) l = 5 ∧ halfR (m : Int) l = []) := by
    unfold halfE halfR
    rw [if_pos hc, if_pos hc]
    cases halfOk (m : Int).toNat (natL l)
    · exact .inr ⟨rfl, rfl⟩
    · exact .inl rfl
  have hRl : (halfR (m : Int) l).length < 2 ^ 62 := by
    unfold halfR
    rw [if_pos hc]
    split
    · rw [Int.toNat_natCast]; simp [halfL]; omega
    · decide
  rw [hc]
  clear ok
  obtain ⟨od, hodE⟩ : ∃ od, oddR (m : Int) l = od := ⟨_, rfl⟩
  rw [hodE] at hge hod
  simp (implicitDefEqProofs := false) (dsimp := false) only [↓aw_seq, ↓aw_block, ↓aw_loop, ↓aw_reg, ↓Qseq_n, ↓ops_nil, ↓ops_cons, ↓eval_int, ↓put_some, ↓op_assign, List.set_cons_zero, List.set_cons_succ, Nat.reduceAdd, Nat.reduceSub, Nat.reduceMul, evK_go, reduceIte, decide_true, Nat.reduceEqDiff, Nat.reduceLT]
  refine loopW (fun i : Nat × Nat => { tm := slots 76 [(0, .d (I .i64 (m : Int))), (1, .d (.l (l.map lnD))), (5, .d (I .i64 0)), (6, .d (I .i64 0)), (7, .nl), (8, .d (I .i64 (i.2 : Int))), (9, .d (I .i64 (i.1 : Int)))], bx := [], rw := [] })
    (fun i => ((i.1 % 2 = 1 ∧ 3 ≤ i.1) ∧ i.1 ≤ m + 4) ∧ ((i.2 = 0 ∧ ∀ k, k < i.1 → k % 2 = 1 → 3 ≤ k → ringR m (besR l) k = false) ∨ (i.2 = od ∧ od ≠ 0))) (fun i => m + 6 - i.1) (3, 0) ⟨⟨⟨by decide, by decide⟩, by simp only; omega⟩, .inl ⟨rfl, fun k h1 h2 h3 => by simp only at h1; omega⟩⟩ ?_ ?_
  · refine Wkn.of [] [] ?_; simp (implicitDefEqProofs := false) (dsimp := false) only [hz, List.set_cons_zero, List.set_cons_succ, Bool.and_self, Nat.reduceAdd, Nat.reduceSub, Nat.reduceMul, List.replicate, evK_go, reduceIte, Nat.reduceEqDiff, Nat.reduceLT, and_self, List.foldl_cons, List.foldl_nil, Int.cast_ofNat_Int, slots, wkL_nil, wkL_cons, wkB_nil, wkR_nil, wkV_j, wkV_d, wkV_nl, nlK_nl, frz_d, reduceCtorEq]
  · rintro ⟨x, y⟩ ⟨⟨⟨hx1, hx2⟩, hx3⟩, hy⟩
    simp only at hx1 hx2 hx3 hy
    simp (implicitDefEqProofs := false) (dsimp := false) only [slots, ↓gdK_t, ↓gval_mk, ↓gvL_zero, ↓gvL_succ, ↓aw_seq, ↓aw_reg, ↓ops_cons, ↓ops_guard, ↓eval_tmp, ↓put_some, ↓binE_i, ↓bi_leq, ↓op_move, ↓op_bin, ↓st_tm, List.getD_cons_zero, List.getD_cons_succ, List.set_cons_zero, List.set_cons_succ, Nat.reduceAdd, Nat.reduceSub, Nat.reduceMul, List.replicate, evK_go, reduceIte, Nat.reduceEqDiff, Nat.reduceLT, List.foldl_cons, List.foldl_nil, Int.ofNat_le]
    by_cases hxm : x ≤ m
    · have d1 := decide_eq_true hxm
      by_cases hy0 : y = 0
      · have d2 := decide_eq_true hy0
        have hno : ∀ k, k < x → k % 2 = 1 → 3 ≤ k → ringR m (besR l) k = false := by
          rcases hy with h | h
          · exact h.2
          · omega
        have hrp : ((m ≤ 40 ∧ x ≤ 40) ∧ 1 ≤ x) ∧ l.length < 2 ^ 62 := ⟨⟨⟨by omega, by omega⟩, by omega⟩, hl62⟩
        subst hy0
        simp (implicitDefEqProofs := false) (dsimp := false) only [d1, hz, rring_call, hrp, ↓cdK_true, ↓gdK_t, ↓gval_mk, ↓gvL_zero, ↓gvL_succ, ↓aw_cond, ↓aw_seq, ↓aw_block, ↓aw_skip, ↓aw_reg, ↓Qseq_n, ↓ops_nil, ↓ops_cons, ↓ops_guard, ↓eval_tmp, ↓eval_int, ↓eval_func, ↓put_some, ↓bK_b, ↓binE_i, ↓bi_eql, ↓op_move, ↓op_pick, ↓op_bin, ↓op_call, isD_d, ↓fnK_f, ↓call_H, ↓callK_H, ↓allT_nil, ↓allT_cons, ↓td_d, ↓st_tm, List.getD_cons_zero, List.getD_cons_succ, List.set_cons_zero, List.set_cons_succ, List.append_nil, List.all_cons, List.all_nil, Bool.true_and, Bool.and_self, Bool.true_or, Nat.reduceAdd, Nat.reduceSub, Nat.reduceMul, evK_go, reduceIte, decide_true, Nat.reduceEqDiff, Nat.reduceLT, and_self, true_and]
        (repeat (first | refine OrH.l ?_ | refine ⟨⟨rfl, by decide⟩, ?_⟩ | refine ⟨by decide, ?_⟩ | refine ⟨by omega, ?_⟩ | exact ⟨rfl, by decide⟩ | decide))
        refine cdK_split (fun h3 => ?_) (fun h3 => ?_)
        · have hodx : od = x := by
            obtain ⟨g1, g2⟩ := hge x hxm hx1 h3
            obtain ⟨g3, g4, g5, g6⟩ := hod g1
            rcases Nat.lt_or_ge od x with h | h
            · rw [hno od h g5 g3] at g6; cases g6
            · omega
          simp (implicitDefEqProofs := false) (dsimp := false) only [↓aw_reg, ↓Qseq_n, ↓Qblk_n, ↓ops_nil, ↓ops_cons, ↓eval_tmp, ↓eval_int, ↓put_some, ↓binE_i, ↓bi_add, ↓in_i64, ↓op_move, ↓op_assign, ↓op_bin, List.getD_cons_zero, List.getD_cons_succ, List.set_cons_zero, List.set_cons_succ, Nat.reduceAdd, Nat.reduceSub, Nat.reduceMul, evK_go, reduceIte, Nat.reduceEqDiff, Nat.reduceLT, ne_eq]
          refine ⟨by omega, (x + 2, x), ⟨⟨⟨by simp only; omega, by simp only; omega⟩, by simp only; omega⟩, .inr ⟨hodx.symm, by omega⟩⟩, by simp only; omega, ?_⟩
          refine Wkn.of [] [] ?_; simp (implicitDefEqProofs := false) (dsimp := false) only [List.set_cons_zero, List.set_cons_succ, Bool.and_self, Nat.reduceAdd, Nat.reduceSub, Nat.reduceMul, List.replicate, evK_go, reduceIte, Nat.reduceEqDiff, Nat.reduceLT, and_self, List.foldl_cons, List.foldl_nil, Int.cast_ofNat_Int, Int.natCast_add, slots, wkL_nil, wkL_cons, wkB_nil, wkR_nil, wkV_j, wkV_d, wkV_nl, nlK_nl, frz_d, reduceCtorEq]
        · simp (implicitDefEqProofs := false) (dsimp := false) only [↓aw_skip, ↓aw_reg, ↓Qseq_n, ↓Qblk_n, ↓ops_nil, ↓ops_cons, ↓eval_tmp, ↓eval_int, ↓put_some, ↓binE_i, ↓bi_add, ↓in_i64, ↓op_move, ↓op_assign, ↓op_bin, List.getD_cons_zero, List.getD_cons_succ, List.set_cons_zero, List.set_cons_succ, Nat.reduceAdd, Nat.reduceSub, Nat.reduceMul, evK_go, reduceIte, Nat.reduceEqDiff, Nat.reduceLT, ne_eq]
          refine ⟨by omega, (x + 2, 0), ⟨⟨⟨by simp only; omega, by simp only; omega⟩, by simp only; omega⟩, .inl ⟨rfl, fun k h1 h2 h4 => ?_⟩⟩, by simp only; omega, ?_⟩
          · simp only at h1
            by_cases e : k = x
            · rw [e]; exact h3
            · exact hno k (by omega) h2 h4
          · refine Wkn.of [] [] ?_; simp (implicitDefEqProofs := false) (dsimp := false) only [hz, List.set_cons_zero, List.set_cons_succ, Bool.and_self, Nat.reduceAdd, Nat.reduceSub, Nat.reduceMul, List.replicate, evK_go, reduceIte, Nat.reduceEqDiff, Nat.reduceLT, and_self, List.foldl_cons, List.foldl_nil, Int.cast_ofNat_Int, Int.natCast_add, slots, wkL_nil, wkL_cons, wkB_nil, wkR_nil, wkV_j, wkV_d, wkV_nl, nlK_nl, frz_d, reduceCtorEq]
      · have d2 := decide_eq_false hy0
        have d3 : decide ((y : Int) = 0) = false := decide_eq_false (by omega)
        have hyo : od = y := by rcases hy with h | h <;> omega
        rcases h5 with h5 | ⟨h5, h6⟩
        · simp (implicitDefEqProofs := false) (dsimp := false) only [d1, d3, hodE, rpart_call, hpr, hpart_call, hodd_call, h5, hyo, eerr_call, ints_call, hRl, ↓cdK_true, ↓cdK_false, ↓gdK_t, ↓gval_mk, ↓gvL_zero, ↓gvL_succ, ↓nthK_H, ↓nthH_zero, ↓nthH_succ, ↓aw_cond, ↓aw_seq, ↓aw_exit, ↓aw_ret, ↓aw_skip, ↓aw_reg, ↓Qseq_n, ↓Qseq_x, ↓Qblk_x, ↓Qret_r, ↓ops_nil, ↓ops_cons, ↓ops_guard, ↓eval_tmp, ↓eval_int, ↓eval_func, ↓put_some, ↓bK_b, ↓tK_t, ↓binE_i, ↓bi_eql, ↓op_move, ↓op_assign, ↓op_pick, ↓op_bin, ↓op_not, ↓op_extract, ↓op_call, ↓orH_T, isD_d, ↓fnK_f, ↓call_H, ↓callK_H, ↓allT_nil, ↓allT_cons, ↓td_d, ↓ret_1, ↓st_tm, List.getD_cons_zero, List.getD_cons_succ, List.set_cons_zero, List.set_cons_succ, List.append_nil, List.all_cons, List.all_nil, Bool.and_self, Bool.true_or, Nat.reduceAdd, Nat.reduceSub, Nat.reduceMul, evK_go, reduceIte, decide_true, Bool.not_true, Nat.reduceEqDiff, Nat.reduceLT, and_self]
          (repeat (first | refine OrH.l ?_ | refine ⟨⟨rfl, by decide⟩, ?_⟩ | refine ⟨by decide, ?_⟩ | refine ⟨by omega, ?_⟩ | exact ⟨rfl, by decide⟩ | decide))
        · simp (implicitDefEqProofs := false) (dsimp := false) only [d1, d3, hodE, rpart_call, hpr, hpart_call, hodd_call, h5, h6, h50, hyo, eerr_call, ints00_call, ↓cdK_true, ↓cdK_false, ↓gdK_t, ↓gval_mk, ↓gvL_zero, ↓gvL_succ, ↓nthK_H, ↓nthH_zero, ↓nthH_succ, ↓aw_cond, ↓aw_seq, ↓aw_exit, ↓aw_ret, ↓aw_reg, ↓Qseq_n, ↓Qseq_x, ↓Qblk_x, ↓Qret_r, ↓ops_nil, ↓ops_cons, ↓ops_guard, ↓eval_tmp, ↓eval_int, ↓eval_func, ↓put_some, ↓bK_b, ↓tK_t, ↓binE_i, ↓bi_eql, ↓op_move, ↓op_assign, ↓op_pick, ↓op_bin, ↓op_not, ↓op_extract, ↓op_call, ↓orH_T, isD_d, ↓fnK_f, ↓call_H, ↓callK_H, ↓allT_nil, ↓allT_cons, ↓td_d, ↓ret_1, ↓st_tm, List.getD_cons_zero, List.getD_cons_succ, List.set_cons_zero, List.set_cons_succ, List.append_nil, List.map_nil, List.all_cons, List.all_nil, Bool.and_self, Bool.true_or, Nat.reduceAdd, Nat.reduceSub, Nat.reduceMul, evK_go, reduceIte, decide_true, Bool.not_false, Nat.reduceEqDiff, Nat.reduceLT, and_self]
          (repeat (first | refine OrH.l ?_ | refine ⟨⟨rfl, by decide⟩, ?_⟩ | refine ⟨by decide, ?_⟩ | refine ⟨by omega, ?_⟩ | exact ⟨rfl, by decide⟩ | decide))
    · have d1 := decide_eq_false hxm
      have hyo : od = y := by
        rcases hy with ⟨h, hno⟩ | h
        · rw [h]
          refine Classical.byContradiction fun hne => ?_
          obtain ⟨g3, g4, g5, g6⟩ := hod hne
          rw [hno od (by omega) g5 g3] at g6; cases g6
        · exact h.1.symm
      rcases h5 with h5 | ⟨h5, h6⟩
      · simp (implicitDefEqProofs := false) (dsimp := false) only [d1, hodE, rpart_call, hpr, hpart_call, hodd_call, h5, hyo, eerr_call, ints_call, hRl, ↓cdK_true, ↓cdK_false, ↓gdK_t, ↓gval_mk, ↓gvL_zero, ↓gvL_succ, ↓nthK_H, ↓nthH_zero, ↓nthH_succ, ↓aw_cond, ↓aw_seq, ↓aw_exit, ↓aw_ret, ↓aw_skip, ↓aw_reg, ↓Qseq_n, ↓Qseq_x, ↓Qblk_x, ↓Qret_r, ↓ops_nil, ↓ops_cons, ↓ops_guard, ↓eval_tmp, ↓eval_bool, ↓eval_func, ↓put_some, ↓bK_b, ↓tK_t, ↓binE_i, ↓bi_eql, ↓op_move, ↓op_assign, ↓op_pick, ↓op_bin, ↓op_not, ↓op_extract, ↓op_call, ↓orH_T, isD_d, ↓fnK_f, ↓call_H, ↓callK_H, ↓allT_nil, ↓allT_cons, ↓td_d, ↓ret_1, ↓st_tm, List.getD_cons_zero, List.getD_cons_succ, List.set_cons_zero, List.set_cons_succ, List.append_nil, List.all_cons, List.all_nil, Bool.and_self, Bool.true_or, Nat.reduceAdd, Nat.reduceSub, Nat.reduceMul, evK_go, reduceIte, decide_true, Bool.not_true, Nat.reduceEqDiff, Nat.reduceLT, and_self]
        (repeat (first | refine OrH.l ?_ | refine ⟨⟨rfl, by decide⟩, ?_⟩ | refine ⟨by decide, ?_⟩ | refine ⟨by omega, ?_⟩ | exact ⟨rfl, by decide⟩ | decide))
      · simp (implicitDefEqProofs := false) (dsimp := false) only [d1, hodE, rpart_call, hpr, hpart_call, hodd_call, h5, h6, h50, hyo, eerr_call, ints00_call, ↓cdK_true, ↓cdK_false, ↓gdK_t, ↓gval_mk, ↓gvL_zero, ↓gvL_succ, ↓nthK_H, ↓nthH_zero, ↓nthH_succ, ↓aw_cond, ↓aw_seq, ↓aw_exit, ↓aw_ret, ↓aw_reg, ↓Qseq_n, ↓Qseq_x, ↓Qblk_x, ↓Qret_r, ↓ops_nil, ↓ops_cons, ↓ops_guard, ↓eval_tmp, ↓eval_int, ↓eval_bool, ↓eval_func, ↓put_some, ↓bK_b, ↓tK_t, ↓binE_i, ↓bi_eql, ↓op_move, ↓op_assign, ↓op_pick, ↓op_bin, ↓op_not, ↓op_extract, ↓op_call, ↓orH_T, isD_d, ↓fnK_f, ↓call_H, ↓callK_H, ↓allT_nil, ↓allT_cons, ↓td_d, ↓ret_1, ↓st_tm, List.getD_cons_zero, List.getD_cons_succ, List.set_cons_zero, List.set_cons_succ, List.append_nil, List.map_nil, List.all_cons, List.all_nil, Bool.and_self, Bool.true_or, Nat.reduceAdd, Nat.reduceSub, Nat.reduceMul, evK_go, reduceIte, decide_true, Bool.not_false, Nat.reduceEqDiff, Nat.reduceLT, and_self]
        (repeat (first | refine OrH.l ?_ | refine ⟨⟨rfl, by decide⟩, ?_⟩ | refine ⟨by decide, ?_⟩ | refine ⟨by omega, ?_⟩ | exact ⟨rfl, by decide⟩ | decide))
end Go.Proofs

namespace Go.Proofs
set_option maxRecDepth 100000
theorem cutNo : ("cut".toList == "gc".toList || "cut".toList == "spec".toList) = false := by kernel_rfl
theorem cutNo2 : ("cut".toList == "carried".toList) = false := by kernel_rfl
theorem cutStrip (T : List (List Char)) : stripLifts liftWords ("cut".toList :: T) = ([], "cut".toList :: T) := by kernel_rfl
theorem make_of {P : Program} {T : List (List Char)} (h : behindMainWord (wordsSigns P.initOrder.toList) = "cut".toList :: T) : P.make = some .cut := by
  unfold Program.make
  rw [h]
  simp (implicitDefEqProofs := false) (dsimp := false) only [cutNo, beq_self_eq_true, Bool.true_or, Bool.false_eq_true, if_false, if_true]
theorem enter_of {P : Program} {T : List (List Char)} (h : behindMainWord (wordsSigns P.initOrder.toList) = "cut".toList :: T) (h1 : P.laysLater = false) (h2 : P.bearsReflect = false) (h3 : P.doorFits [] = true) : P.mayEnter = true := by
  unfold Program.mayEnter
  rw [h]
  simp (implicitDefEqProofs := false) (dsimp := false) only [cutStrip, cutNo, cutNo2, h1, h2, h3, List.head?_cons, beq_self_eq_true, Bool.not_false, Bool.or_true, Bool.and_true, Bool.true_and]
  rfl
theorem final_of {P : Program} {T : List (List Char)} (h : behindMainWord (wordsSigns P.initOrder.toList) = "cut".toList :: T) : P.liftsFinal = false := by
  unfold Program.liftsFinal Program.headLifts
  rw [h]
  simp (implicitDefEqProofs := false) (dsimp := false) only [cutStrip]
  kernel_rfl
theorem cutWord : behindMainWord (wordsSigns Tryd.prog.initOrder.toList) = "cut".toList :: (behindMainWord (wordsSigns Tryd.prog.initOrder.toList)).tail := by
  have h : Tryd.prog.initOrder.toList = _ := String.toList_ofList
  rw [h]
  show (_ : List (List Char)) = _
  kernel_rfl
theorem pLater : Tryd.prog.laysLater = false := by
  unfold Program.laysLater
  rw [← Array.any_toList]
  kernel_rfl
theorem pReflect : Tryd.prog.bearsReflect = false := by kernel_rfl
theorem pDoor : Tryd.prog.doorFits [] = true := by kernel_rfl
theorem pMake : Tryd.prog.make = some .cut := make_of cutWord
theorem pEnter : Tryd.prog.mayEnter = true := enter_of cutWord pLater pReflect pDoor
theorem pFinal : Tryd.prog.liftsFinal = false := final_of cutWord
theorem pLaid : laidOutB Tryd.prog = true := by kernel_rfl
theorem pRowed : mapsRowed Tryd.prog = true := by kernel_rfl
theorem pStops : (Tryd.prog.stops == []) = true := by kernel_rfl
theorem pKnobs : (Tryd.prog.stopKnobs == []) = true := by kernel_rfl
theorem pHeard : Tryd.prog.stopsHeard = true := by kernel_rfl
theorem pMain : Tryd.prog.mainIs = some (true, "ef528b23815b70c2662300e7e3ba81efdd8130d758234ace3c638d7836b90011".toList) := by
  have h : Tryd.prog.initOrder.toList = _ := String.toList_ofList
  unfold Program.mainIs
  rw [h]
  show (_ : Option (Bool × List Char)) = _
  kernel_rfl
theorem pLooks : true = Tryd.prog.looks [] := by kernel_rfl
theorem pOwn : ownKnob Tryd.prog.godebug = none := by kernel_rfl
theorem andB {a b : Bool} (ha : a = true) (hb : b = true) : (a && b) = true := by rw [ha, hb]; rfl
end Go.Proofs
