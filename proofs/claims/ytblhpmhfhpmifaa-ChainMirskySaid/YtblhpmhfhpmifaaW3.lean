/- Part W 3 of what the proof of ChainMirsky stands on: what the functions of the program compute. -/
import Derived.Test.YtblhpmhfhpmifaaW2
set_option linter.unusedVariables false
set_option linter.unusedSimpArgs false
namespace Go.Proofs
open Go.Aw
set_option linter.unusedSimpArgs false
set_option maxRecDepth 10000
/-- All but one. -/
def butK {α : Type} [Inhabited α] (l : List α) (k : Int) (i : Nat) : List α := ((List.range i).filter fun j : Nat => !decide ((j : Int) = k)).map fun j => l.getD j default
def butL {α : Type} [Inhabited α] (l : List α) (k : Int) : List α := butK l k l.length
theorem butK_succ {α : Type} [Inhabited α] (l : List α) (k : Int) (i : Nat) : butK l k (i + 1) = if (i : Int) = k then butK l k i else butK l k i ++ [l.getD i default] := by
  unfold butK
  rw [List.range_succ, List.filter_append, List.map_append]
  by_cases h : (i : Int) = k <;> simp [h]
theorem butK_len {α : Type} [Inhabited α] (l : List α) (k : Int) (i : Nat) : (butK l k i).length ≤ i := by
  unfold butK
  rw [List.length_map]
  exact Nat.le_trans (List.length_filter_le _ _) (by simp)
theorem but_mem {α : Type} [Inhabited α] {l : List α} {k : Int} {x : α} (h : x ∈ butL l k) : x ∈ l := by
  obtain ⟨j, hj, rfl⟩ := List.mem_map.1 h
  exact getD_mem (by simpa using (List.mem_filter.1 hj).1)
theorem but_map {α β : Type} [Inhabited α] [Inhabited β] (f : α → β) (l : List α) (k : Int) : butL (l.map f) k = (butL l k).map f := by
  unfold butL butK
  rw [List.length_map, List.map_map]
  refine List.map_congr_left fun j hj => ?_
  have : j < l.length := by simpa using (List.mem_filter.1 hj).1
  simp [List.getD_eq_getElem?_getD, this]
theorem but_erase {α : Type} [Inhabited α] (l : List α) (k : Nat) (hk : k < l.length) : butL l (k : Int) = l.eraseIdx k := by
  have key : ∀ i, i ≤ l.length → butK l (k : Int) i = if k < i then (l.take i).eraseIdx k else l.take i := by
    intro i
    induction i with
    | zero => intro _; simp [butK]
    | succ i ih =>
      intro hi
      rw [butK_succ, ih (by omega)]
      rcases Nat.lt_trichotomy i k with h | h | h
      · rw [if_neg (by omega), if_neg (by omega), if_neg (by omega), take_succ_getD (by omega)]
      · subst h
        rw [if_pos rfl, if_neg (by omega), if_pos (by omega), take_succ_getD (by omega), List.eraseIdx_append_of_length_le (by simp; omega)]
        simp [show min i l.length = i by omega]
      · rw [if_neg (by omega), if_pos h, if_pos (by omega), take_succ_getD (by omega), List.eraseIdx_append_of_lt_length (by simp; omega)]
  have := key l.length (Nat.le_refl _)
  rw [if_pos hk, List.take_length] at this
  exact this
theorem but_spec (l : List (Int × Int)) (k : Int) (hpre : l.length < 2 ^ 43) : FnR Try.prog 41 [.l (l.map lnD), I .i64 k] 2 ((butL l k).map lnD) := by
  refine FnR.go Try.func41 rfl rfl Try.results41 Try.ntmps41 ?_
  simp (implicitDefEqProofs := false) (dsimp := false) only [↓aw_seq, ↓aw_block, ↓aw_loop, ↓aw_reg, ↓Qseq_n, ↓ops_nil, ↓ops_cons, ↓eval_int, ↓eval_nil, ↓put_some, ↓op_assign, List.set_cons_zero, List.set_cons_succ, List.cons_append, List.nil_append, List.map_cons, List.map_nil, List.length_cons, List.length_nil, Nat.reduceAdd, Nat.reduceSub, Nat.reduceMul, Nat.zero_add, List.replicate, evK_go, reduceIte, Nat.reduceEqDiff, Nat.reduceLT, Int.zero_add]
  refine loopW (fun i : Nat => { tm := slots 24 [(0, .d (.l (l.map lnD))), (1, .d (I .i64 k)), (5, .o 0 0 (butK l k i).length), (6, .d (I .i64 i))], bx := [], rw := [some ⟨2, (butK l k i).map lnD⟩] })
    (fun i => i ≤ l.length) (fun i => l.length - i) 0 (by simp) ?_ ?_
  · refine Wkn.of [] [none] ?_
    simp (implicitDefEqProofs := false) (dsimp := false) only [butK, List.range_zero, List.filter_nil, ↓row_xs, List.set_cons_zero, List.set_cons_succ, List.map_nil, List.length_nil, Bool.and_self, Nat.reduceAdd, Nat.reduceSub, Nat.reduceMul, List.replicate, evK_go, reduceIte, Nat.reduceEqDiff, Nat.reduceLT, and_self, List.foldl_cons, List.foldl_nil, Int.cast_ofNat_Int, slots, wkL_nil, wkL_cons, wkB_nil, wkR_nil, wkR_new, wkV_j, wkV_d, nlK_nl, wkV_o, frz_d, oK_zn, reduceCtorEq]
  · intro i hi
    simp (implicitDefEqProofs := false) (dsimp := false) only [slots, ↓aw_cond, ↓aw_seq, ↓aw_reg, ↓Qseq_n, ↓ops_nil, ↓ops_cons, ↓eval_tmp, ↓put_some, ↓bK_b, ↓lenK_l, ↓binE_i, ↓bi_lss, ↓op_move, ↓op_bin, ↓op_len, ↓sl22, List.getD_cons_zero, List.getD_cons_succ, List.set_cons_zero, List.set_cons_succ, List.length_map, Nat.reduceAdd, Nat.reduceSub, Nat.reduceMul, List.replicate, evK_go, reduceIte, Nat.reduceEqDiff, Nat.reduceLT, List.foldl_cons, List.foldl_nil, Int.ofNat_lt]
    refine cdK_dec (fun h => ?_) (fun h => ?_)
    · have hlen := butK_len l k i
      simp (implicitDefEqProofs := false) (dsimp := false) only [↓cdK_not, ↓aw_cond, ↓aw_seq, ↓aw_block, ↓aw_skip, ↓aw_reg, ↓Qseq_n, ↓ops_nil, ↓ops_cons, ↓eval_tmp, ↓put_some, ↓bK_b, ↓binE_i, ↓bi_neq, ↓op_move, ↓op_bin, List.getD_cons_zero, List.getD_cons_succ, List.set_cons_zero, List.set_cons_succ, Nat.reduceAdd, Nat.reduceSub, Nat.reduceMul, evK_go, reduceIte, Nat.reduceEqDiff, Nat.reduceLT]
      refine cdK_dec (fun hb => ?_) (fun hb => ?_)
      · simp (implicitDefEqProofs := false) (dsimp := false) only [↓aw_skip, ↓aw_reg, ↓Qseq_n, ↓Qblk_n, ↓ops_nil, ↓ops_cons, ↓eval_tmp, ↓eval_int, ↓put_some, ↓binE_i, ↓bi_add, ↓in_i64, ↓op_move, ↓op_assign, ↓op_bin, List.getD_cons_zero, List.getD_cons_succ, List.set_cons_zero, List.set_cons_succ, Nat.reduceAdd, Nat.reduceSub, Nat.reduceMul, evK_go, reduceIte, Nat.reduceEqDiff, Nat.reduceLT]
        refine ⟨by omega, i + 1, by omega, by omega, ?_⟩
        refine Wkn.of [] [some 0] ?_
        simp (implicitDefEqProofs := false) (dsimp := false) only [butK_succ, hb, List.getD_cons_zero, List.set_cons_zero, List.set_cons_succ, Bool.and_self, Nat.reduceAdd, Nat.reduceSub, Nat.reduceMul, List.replicate, evK_go, reduceIte, decide_true, Bool.not_true, Nat.reduceEqDiff, Nat.reduceLT, and_self, List.foldl_cons, List.foldl_nil, Int.cast_ofNat_Int, Int.natCast_add, slots, wkL_nil, wkL_cons, wkB_nil, wkR_nil, wkR_some, wkV_j, wkV_d, wkV_o, frz_d, oK_zs, reduceCtorEq]
      · simp (implicitDefEqProofs := false) (dsimp := false) only [h, lnD_cells, ↓optK_some, ↓rwK_mk_, ↓atK_H, ↓atH_map, ↓aw_reg, ↓Qseq_n, ↓Qblk_n, ↓ops_nil, ↓ops_cons, ↓eval_tmp, ↓eval_int, ↓put_some, ↓iK_i, ↓dK_d, ↓binE_i, ↓bi_add, ↓in_i64, ↓ldK_q, ↓iaK_l, ↓op_move, ↓op_assign, ↓op_load, ↓op_bin, ↓op_ia, ↓op_append, ↓allD_nil, ↓allD_cons, ↓app_mk, ↓row_sz, ↓row_xs, kill_d, kill_j, kill_o, ↓cells_s, ↓one_i, ↓ap_, ↓ap_o, ↓src_l, ↓bs_, ↓op_bs, ↓bsL_f, ↓stored_mk, ↓sl_nil, ↓sl_cons, ↓sT_move, ↓sT_assign, ↓sT_load, ↓sT_ia, ↓sT_bs, ↓sT_call, ↓vsz_agg, ↓inO_1, ↓fm_nil, ↓fm_cons, ↓sl22, ↓ty35, ↓zb35, List.getD_cons_zero, List.getD_cons_succ, List.set_cons_zero, List.set_cons_succ, List.map_cons, List.map_nil, List.length_cons, List.length_nil, List.length_map, List.all_cons, List.all_nil, Bool.true_and, Bool.and_self, Bool.or_false, Nat.reduceAdd, Nat.reduceSub, Nat.reduceMul, Nat.zero_add, Int.toNat_natCast, evK_go, reduceIte, decide_true, Nat.reduceEqDiff, Nat.reduceLT, and_self, true_and, Int.zero_add, List.drop_zero, List.take_succ_cons, List.take_nil, Int.natCast_nonneg]
        refine ⟨by decide, ⟨rfl, by decide⟩, rfl, ⟨fun _ => trivial, by omega, by omega⟩, by omega, i + 1, by omega, by omega, ?_⟩
        refine Wkn.of [] [some 0] ?_
        simp (implicitDefEqProofs := false) (dsimp := false) only [butK_succ, hb, List.map_append, List.length_append, lnD, List.getD_cons_zero, List.set_cons_zero, List.set_cons_succ, List.map_cons, List.map_nil, List.length_cons, List.length_nil, Bool.and_self, Nat.reduceAdd, Nat.reduceSub, Nat.reduceMul, Nat.zero_add, List.replicate, evK_go, reduceIte, decide_false, Bool.not_false, Nat.reduceEqDiff, Nat.reduceLT, and_self, Int.zero_add, List.foldl_cons, List.foldl_nil, Int.cast_ofNat_Int, Int.natCast_add, slots, wkL_nil, wkL_cons, wkB_nil, wkR_nil, wkR_some, wkV_j, wkV_d, wkV_o, frz_d, oK_zs, reduceCtorEq]
    · obtain rfl : i = l.length := by omega
      simp (implicitDefEqProofs := false) (dsimp := false) only [↓optK_some, ↓rwK_mk_, ↓aw_seq, ↓aw_exit, ↓aw_ret, ↓aw_reg, ↓Qseq_n, ↓Qseq_x, ↓Qblk_x, ↓ops_nil, ↓ops_cons, ↓eval_tmp, ↓put_some, ↓op_move, ↓op_assign, ↓row_sz, ↓row_xs, ↓take_map, ↓Qrow_r, ↓rowK_o, List.getD_cons_zero, List.getD_cons_succ, List.set_cons_zero, List.set_cons_succ, Bool.true_and, Nat.reduceAdd, Nat.reduceSub, Nat.reduceMul, evK_go, reduceIte, decide_false, Nat.reduceEqDiff, Nat.reduceLT, true_and, Nat.lt_irrefl]
      rfl
theorem but_call (l : List (Int × Int)) (k : Int) (pure : Bool) (σ : St) (dst : Option Tmp) (K : St → Prop) : CallH Try.prog 41 [.l (l.map lnD), I .i64 k] pure σ dst (.mk : Hid K) = OrH ((l.length < 2 ^ 43) ∧ (pure || Res.flat (.row 2 ((butL l k).map lnD))) = true ∧ evK ((σ.addRow ⟨2, (butL l k).map lnD⟩).put dst (.o σ.rw.length 0 (List.length ((butL l k).map lnD)))) (.mk : Hid K)) (.mk : Hid (CallH Try.prog 41 [.l (l.map lnD), I .i64 k] pure σ dst (.mk : Hid K))) := CallH.eqR (fun h => but_spec l k h) pure σ dst K
theorem but_callD (l : List (Int × Int)) (k : Int) (pure : Bool) (σ : St) (dst : Option Tmp) (K : St → Prop) : CallH Try.prog 41 [.l (l.map lnD), I .i64 k] pure σ dst (.mk : Hid K) = OrH ((l.length < 2 ^ 43) ∧ (pure || D.flat (.l ((butL l k).map lnD))) = true ∧ evK (σ.put dst (.d (.l ((butL l k).map lnD)))) (.mk : Hid K)) (.mk : Hid (CallH Try.prog 41 [.l (l.map lnD), I .i64 k] pure σ dst (.mk : Hid K))) := CallH.eq (fun h => ((fun h => but_spec l k h) h).data) pure σ dst K
theorem but_callDQ (l : List (Int × Int)) (k : Int) (pure : Bool) (C : V → Prop) : CallQ Try.prog 41 [.l (l.map lnD), I .i64 k] pure (.mk : Hid C) = OrH ((l.length < 2 ^ 43) ∧ (pure || D.flat (.l ((butL l k).map lnD))) = true ∧ evK (V.d (.l ((butL l k).map lnD))) (.mk : Hid C)) (.mk : Hid (CallQ Try.prog 41 [.l (l.map lnD), I .i64 k] pure (.mk : Hid C))) := CallQ.eq (fun h => ((fun h => but_spec l k h) h).data) pure C
/-- The place of a number. -/
def place (l : List Int) (n : Int) : Int := if n ∈ l then (l.idxOf n : Nat) else -1
theorem place_at {l : List Int} {n : Int} {k : Nat} (h : k < l.length) (h0 : n ∉ l.take k) (e : l.getD k default = n) : place l n = k := by
  have hm : n ∈ l := by rw [← e]; exact getD_mem h
  unfold place
  rw [if_pos hm]
  have h1 : l = l.take k ++ n :: l.drop (k + 1) := by
    conv => lhs; rw [← List.take_append_drop k l]
    congr 1
    rw [List.drop_eq_getElem_cons h]
    congr 1
    rw [← e, List.getD_eq_getElem?_getD, List.getElem?_eq_getElem h]; rfl
  rw [h1, List.idxOf_append, if_neg h0]
  simp; omega
theorem place_spec (l : List Int) (n : Int) (hpre : l.length < 2 ^ 62) : FnD Try.prog 48 [.l (l.map (I .i64)), I .i64 n] (I .i64 (place l n)) := by
  refine FnD.go Try.func48 rfl rfl Try.results48 Try.ntmps48 ?_
  simp (implicitDefEqProofs := false) (dsimp := false) only [↓aw_seq, ↓aw_block, ↓aw_loop, ↓aw_reg, ↓Qseq_n, ↓ops_nil, ↓ops_cons, ↓eval_int, ↓put_some, ↓op_assign, List.set_cons_zero, List.set_cons_succ, List.cons_append, List.nil_append, List.map_cons, List.map_nil, List.length_cons, List.length_nil, Nat.reduceAdd, Nat.reduceSub, Nat.reduceMul, Nat.zero_add, List.replicate, evK_go, reduceIte, Nat.reduceEqDiff, Nat.reduceLT, Int.zero_add]
  refine loopW (fun k : Nat => { tm := slots 19 [(0, .d (.l (l.map (I .i64)))), (1, .d (I .i64 n)), (5, .d (I .i64 k))], bx := [], rw := [] })
    (fun k => k ≤ l.length ∧ n ∉ l.take k) (fun k => l.length - k) 0 ⟨by simp, by simp⟩ ?_ ?_
  · refine Wkn.of [] [] ?_
    simp (implicitDefEqProofs := false) (dsimp := false) only [List.set_cons_zero, List.set_cons_succ, Bool.and_self, Nat.reduceAdd, Nat.reduceSub, Nat.reduceMul, List.replicate, evK_go, reduceIte, Nat.reduceEqDiff, Nat.reduceLT, and_self, List.foldl_cons, List.foldl_nil, Int.cast_ofNat_Int, slots, wkL_nil, wkL_cons, wkB_nil, wkR_nil, wkV_j, wkV_d, frz_d, reduceCtorEq]
  · rintro k ⟨h1, h2⟩
    simp (implicitDefEqProofs := false) (dsimp := false) only [slots, ↓aw_cond, ↓aw_seq, ↓aw_reg, ↓Qseq_n, ↓ops_nil, ↓ops_cons, ↓eval_tmp, ↓put_some, ↓bK_b, ↓lenK_l, ↓binE_i, ↓bi_lss, ↓op_move, ↓op_bin, ↓op_len, ↓sl28, List.getD_cons_zero, List.getD_cons_succ, List.set_cons_zero, List.set_cons_succ, List.length_map, Nat.reduceAdd, Nat.reduceSub, Nat.reduceMul, List.replicate, evK_go, reduceIte, Nat.reduceEqDiff, Nat.reduceLT, List.foldl_cons, List.foldl_nil, Int.ofNat_lt]
    refine cdK_dec (fun h => ?_) (fun h => ?_)
    · simp (implicitDefEqProofs := false) (dsimp := false) only [h, ↓atK_H, ↓atH_map, ↓aw_cond, ↓aw_seq, ↓aw_block, ↓aw_skip, ↓aw_reg, ↓Qseq_n, ↓ops_nil, ↓ops_cons, ↓eval_tmp, ↓put_some, ↓bK_b, ↓iK_i, ↓binE_i, ↓bi_eql, ↓ldK_q, ↓iaK_l, ↓op_move, ↓op_load, ↓op_bin, ↓op_ia, ↓cells_c, ↓hd_cons, ↓ty3, ↓sl28, List.getD_cons_zero, List.getD_cons_succ, List.set_cons_zero, List.set_cons_succ, List.length_cons, List.length_nil, Bool.true_and, Nat.reduceAdd, Nat.reduceSub, Nat.reduceMul, Nat.zero_add, Int.toNat_natCast, evK_go, reduceIte, decide_true, Nat.reduceEqDiff, Nat.reduceLT, true_and, Int.zero_add, Int.natCast_nonneg]
      refine cdK_dec (fun hb => ?_) (fun hb => ?_)
      · have := place_at h h2 hb
        simp (implicitDefEqProofs := false) (dsimp := false) only [this, ↓aw_seq, ↓aw_ret, ↓aw_reg, ↓Qseq_n, ↓Qseq_r, ↓Qblk_r, ↓Qret_r, ↓ops_nil, ↓ops_cons, ↓eval_tmp, ↓put_some, ↓op_move, ↓op_assign, ↓td_d, ↓ret_1, List.getD_cons_zero, List.getD_cons_succ, List.set_cons_zero, List.set_cons_succ, Nat.reduceAdd, Nat.reduceSub, Nat.reduceMul, evK_go, reduceIte, Nat.reduceEqDiff, Nat.reduceLT]
      · simp (implicitDefEqProofs := false) (dsimp := false) only [↓aw_skip, ↓aw_reg, ↓Qseq_n, ↓Qblk_n, ↓ops_nil, ↓ops_cons, ↓eval_tmp, ↓eval_int, ↓put_some, ↓binE_i, ↓bi_add, ↓in_i64, ↓op_move, ↓op_assign, ↓op_bin, List.getD_cons_zero, List.getD_cons_succ, List.set_cons_zero, List.set_cons_succ, Nat.reduceAdd, Nat.reduceSub, Nat.reduceMul, evK_go, reduceIte, Nat.reduceEqDiff, Nat.reduceLT]
        refine ⟨by omega, k + 1, ⟨by omega, ?_⟩, by omega, ?_⟩
        · rw [take_succ_getD h, List.mem_append, List.mem_singleton]
          exact fun h' => h'.elim h2 (fun e => hb e.symm)
        · refine Wkn.of [] [] ?_
          simp (implicitDefEqProofs := false) (dsimp := false) only [List.set_cons_zero, List.set_cons_succ, Bool.and_self, Nat.reduceAdd, Nat.reduceSub, Nat.reduceMul, List.replicate, evK_go, reduceIte, Nat.reduceEqDiff, Nat.reduceLT, and_self, List.foldl_cons, List.foldl_nil, Int.cast_ofNat_Int, Int.natCast_add, slots, wkL_nil, wkL_cons, wkB_nil, wkR_nil, wkV_j, wkV_d, frz_d, reduceCtorEq]
    · obtain rfl : k = l.length := by omega
      rw [List.take_length] at h2
      have : place l n = -1 := if_neg h2
      simp (implicitDefEqProofs := false) (dsimp := false) only [this, ↓aw_seq, ↓aw_exit, ↓aw_ret, ↓aw_reg, ↓Qseq_n, ↓Qseq_x, ↓Qblk_x, ↓Qret_r, ↓ops_nil, ↓ops_cons, ↓eval_tmp, ↓eval_int, ↓put_some, ↓op_assign, ↓td_d, ↓ret_1, List.getD_cons_zero, List.getD_cons_succ, List.set_cons_zero, List.set_cons_succ, Nat.reduceAdd, Nat.reduceSub, Nat.reduceMul, evK_go, reduceIte, decide_false, Nat.reduceEqDiff, Nat.reduceLT, Nat.lt_irrefl]
theorem place_call (l : List Int) (n : Int) (pure : Bool) (σ : St) (dst : Option Tmp) (K : St → Prop) : CallH Try.prog 48 [.l (l.map (I .i64)), I .i64 n] pure σ dst (.mk : Hid K) = OrH ((l.length < 2 ^ 62) ∧ (pure || D.flat (I .i64 (place l n))) = true ∧ evK (σ.put dst (.d (I .i64 (place l n)))) (.mk : Hid K)) (.mk : Hid (CallH Try.prog 48 [.l (l.map (I .i64)), I .i64 n] pure σ dst (.mk : Hid K))) := CallH.eq (place_spec l n) pure σ dst K
theorem place_callQ (l : List Int) (n : Int) (pure : Bool) (C : V → Prop) : CallQ Try.prog 48 [.l (l.map (I .i64)), I .i64 n] pure (.mk : Hid C) = OrH ((l.length < 2 ^ 62) ∧ (pure || D.flat (I .i64 (place l n))) = true ∧ evK (V.d (I .i64 (place l n))) (.mk : Hid C)) (.mk : Hid (CallQ Try.prog 48 [.l (l.map (I .i64)), I .i64 n] pure (.mk : Hid C))) := CallQ.eq (place_spec l n) pure C
/-- How many are false. -/
def missN (l : List Bool) : Nat := l.countP fun b => !b
theorem miss_succ {l : List Bool} {k : Nat} (h : k < l.length) : missN (l.take (k + 1)) = missN (l.take k) + if l.getD k default then 0 else 1 := by
  rw [take_succ_getD h, missN, List.countP_append]
  cases l.getD k default <;> simp [missN]
theorem miss_le (l : List Bool) : missN l ≤ l.length := List.countP_le_length
theorem misses_spec (l : List Bool) (hpre : l.length < 2 ^ 62) : FnD Try.prog 34 [.l (l.map Bo)] (I .i64 (missN l : Nat)) := by
  refine FnD.go Try.func34 rfl rfl Try.results34 Try.ntmps34 ?_
  simp (implicitDefEqProofs := false) (dsimp := false) only [↓aw_seq, ↓aw_block, ↓aw_loop, ↓aw_reg, ↓Qseq_n, ↓ops_nil, ↓ops_cons, ↓eval_int, ↓put_some, ↓op_assign, List.set_cons_zero, List.set_cons_succ, List.cons_append, List.nil_append, List.map_cons, List.map_nil, List.length_cons, List.length_nil, Nat.reduceAdd, Nat.reduceSub, Nat.reduceMul, Nat.zero_add, List.replicate, evK_go, reduceIte, Nat.reduceEqDiff, Nat.reduceLT, Int.zero_add]
  refine loopW (fun k : Nat => { tm := slots 19 [(0, .d (.l (l.map Bo))), (3, .d (I .i64 (missN (l.take k) : Nat))), (4, .d (I .i64 k))], bx := [], rw := [] })
    (fun k => k ≤ l.length) (fun k => l.length - k) 0 (by simp) ?_ ?_
  · refine Wkn.of [] [] ?_
    simp (implicitDefEqProofs := false) (dsimp := false) only [missN, List.countP_nil, List.set_cons_zero, List.set_cons_succ, Bool.and_self, Nat.reduceAdd, Nat.reduceSub, Nat.reduceMul, List.replicate, evK_go, reduceIte, Nat.reduceEqDiff, Nat.reduceLT, and_self, List.take_zero, List.foldl_cons, List.foldl_nil, Int.cast_ofNat_Int, slots, wkL_nil, wkL_cons, wkB_nil, wkR_nil, wkV_j, wkV_d, frz_d, reduceCtorEq]
  · rintro k h1
    simp (implicitDefEqProofs := false) (dsimp := false) only [slots, ↓aw_cond, ↓aw_seq, ↓aw_reg, ↓Qseq_n, ↓ops_nil, ↓ops_cons, ↓eval_tmp, ↓put_some, ↓bK_b, ↓lenK_l, ↓binE_i, ↓bi_lss, ↓op_move, ↓op_bin, ↓op_len, ↓sl38, List.getD_cons_zero, List.getD_cons_succ, List.set_cons_zero, List.set_cons_succ, List.length_map, Nat.reduceAdd, Nat.reduceSub, Nat.reduceMul, List.replicate, evK_go, reduceIte, Nat.reduceEqDiff, Nat.reduceLT, List.foldl_cons, List.foldl_nil, Int.ofNat_lt]
    have hm := miss_le (l.take k)
    rw [List.length_take] at hm
    refine cdK_dec (fun h => ?_) (fun h => ?_)
    · simp (implicitDefEqProofs := false) (dsimp := false) only [h, ↓cdK_not, ↓atK_H, ↓atH_map, ↓aw_cond, ↓aw_seq, ↓aw_block, ↓aw_skip, ↓aw_reg, ↓Qseq_n, ↓ops_nil, ↓ops_cons, ↓eval_tmp, ↓put_some, ↓bK_b, ↓iK_i, ↓ldK_q, ↓iaK_l, ↓op_move, ↓op_load, ↓op_not, ↓op_ia, ↓cells_c, ↓hd_cons, ↓ty4, ↓sl38, List.getD_cons_zero, List.getD_cons_succ, List.set_cons_zero, List.set_cons_succ, List.length_cons, List.length_nil, Bool.true_and, Nat.reduceAdd, Nat.reduceSub, Nat.reduceMul, Nat.zero_add, Int.toNat_natCast, evK_go, reduceIte, decide_true, Nat.reduceEqDiff, Nat.reduceLT, true_and, Int.zero_add, Int.natCast_nonneg]
      refine cdK_split (fun hb => ?_) (fun hb => ?_)
      · simp (implicitDefEqProofs := false) (dsimp := false) only [↓aw_skip, ↓aw_reg, ↓Qseq_n, ↓Qblk_n, ↓ops_nil, ↓ops_cons, ↓eval_tmp, ↓eval_int, ↓put_some, ↓binE_i, ↓bi_add, ↓in_i64, ↓op_move, ↓op_assign, ↓op_bin, List.getD_cons_zero, List.getD_cons_succ, List.set_cons_zero, List.set_cons_succ, Nat.reduceAdd, Nat.reduceSub, Nat.reduceMul, evK_go, reduceIte, Nat.reduceEqDiff, Nat.reduceLT]
        refine ⟨by omega, k + 1, by omega, by omega, ?_⟩
        refine Wkn.of [] [] ?_
        simp (implicitDefEqProofs := false) (dsimp := false) only [miss_succ h, hb, List.set_cons_zero, List.set_cons_succ, Bool.and_self, Nat.reduceAdd, Nat.reduceSub, Nat.reduceMul, Nat.add_zero, List.replicate, evK_go, reduceIte, Bool.not_true, Nat.reduceEqDiff, Nat.reduceLT, and_self, List.foldl_cons, List.foldl_nil, Int.cast_ofNat_Int, Int.natCast_add, slots, wkL_nil, wkL_cons, wkB_nil, wkR_nil, wkV_j, wkV_d, frz_d, reduceCtorEq]
      · simp (implicitDefEqProofs := false) (dsimp := false) only [↓aw_reg, ↓Qseq_n, ↓Qblk_n, ↓ops_nil, ↓ops_cons, ↓eval_tmp, ↓eval_int, ↓put_some, ↓binE_i, ↓bi_add, ↓in_i64, ↓op_move, ↓op_assign, ↓op_bin, List.getD_cons_zero, List.getD_cons_succ, List.set_cons_zero, List.set_cons_succ, Nat.reduceAdd, Nat.reduceSub, Nat.reduceMul, evK_go, reduceIte, Nat.reduceEqDiff, Nat.reduceLT]
        refine ⟨by omega, by omega, k + 1, by omega, by omega, ?_⟩
        refine Wkn.of [] [] ?_
        simp (implicitDefEqProofs := false) (dsimp := false) only [miss_succ h, hb, Bool.false_eq_true, List.set_cons_zero, List.set_cons_succ, Bool.and_self, Nat.reduceAdd, Nat.reduceSub, Nat.reduceMul, List.replicate, evK_go, reduceIte, Bool.not_false, Nat.reduceEqDiff, Nat.reduceLT, and_self, List.foldl_cons, List.foldl_nil, Int.cast_ofNat_Int, Int.natCast_add, slots, wkL_nil, wkL_cons, wkB_nil, wkR_nil, wkV_j, wkV_d, frz_d, reduceCtorEq]
    · obtain rfl : k = l.length := by omega
      rw [List.take_length]
      simp (implicitDefEqProofs := false) (dsimp := false) only [↓aw_seq, ↓aw_exit, ↓aw_ret, ↓aw_reg, ↓Qseq_n, ↓Qseq_x, ↓Qblk_x, ↓Qret_r, ↓ops_nil, ↓ops_cons, ↓eval_tmp, ↓put_some, ↓op_move, ↓op_assign, ↓td_d, ↓ret_1, List.getD_cons_zero, List.getD_cons_succ, List.set_cons_zero, List.set_cons_succ, Nat.reduceAdd, Nat.reduceSub, Nat.reduceMul, evK_go, reduceIte, decide_false, Nat.reduceEqDiff, Nat.reduceLT, Nat.lt_irrefl]
theorem misses_call (l : List Bool) (pure : Bool) (σ : St) (dst : Option Tmp) (K : St → Prop) : CallH Try.prog 34 [.l (l.map Bo)] pure σ dst (.mk : Hid K) = OrH ((l.length < 2 ^ 62) ∧ (pure || D.flat (I .i64 (missN l : Nat))) = true ∧ evK (σ.put dst (.d (I .i64 (missN l : Nat)))) (.mk : Hid K)) (.mk : Hid (CallH Try.prog 34 [.l (l.map Bo)] pure σ dst (.mk : Hid K))) := CallH.eq (misses_spec l) pure σ dst K
theorem misses_callQ (l : List Bool) (pure : Bool) (C : V → Prop) : CallQ Try.prog 34 [.l (l.map Bo)] pure (.mk : Hid C) = OrH ((l.length < 2 ^ 62) ∧ (pure || D.flat (I .i64 (missN l : Nat))) = true ∧ evK (V.d (I .i64 (missN l : Nat))) (.mk : Hid C)) (.mk : Hid (CallQ Try.prog 34 [.l (l.map Bo)] pure (.mk : Hid C))) := CallQ.eq (misses_spec l) pure C
theorem lines_spec (n : Int) (l : List (Int × Int)) (hpre : l.length < 2 ^ 62) : FnD Try.prog 38 [I .i64 n, .l (l.map lnD)] (I .i64 (chk n l)) := by
  refine FnD.go Try.func38 rfl rfl Try.results38 Try.ntmps38 ?_
  simp (implicitDefEqProofs := false) (dsimp := false) only [↓aw_seq, ↓aw_reg, ↓Qseq_n, ↓ops_nil, ↓ops_cons, ↓eval_tmp, ↓eval_int, ↓eval_func, ↓put_some, ↓op_move, ↓op_assign, ↓op_call, isD_d, ↓fnK_f, ↓call_H, ↓callK_H, ↓allT_nil, ↓allT_cons, ↓td_d, List.getD_cons_zero, List.getD_cons_succ, List.set_cons_zero, List.set_cons_succ, List.cons_append, List.nil_append, List.append_nil, List.map_cons, List.map_nil, List.length_cons, List.length_nil, List.all_cons, List.all_nil, Bool.and_self, Nat.reduceAdd, Nat.reduceSub, Nat.reduceMul, Nat.zero_add, List.replicate, evK_go, reduceIte, Nat.reduceEqDiff, Nat.reduceLT, and_self, Int.zero_add]
  simp (implicitDefEqProofs := false) (dsimp := false) only [in1_call, ↓cdK_not, ↓aw_cond, ↓Qseq_n, ↓ops_nil, ↓ops_cons, ↓eval_tmp, ↓put_some, ↓bK_b, ↓op_not, List.getD_cons_zero, List.getD_cons_succ, List.set_cons_zero, List.set_cons_succ, Bool.true_and, Bool.true_or, Nat.reduceAdd, Nat.reduceSub, Nat.reduceMul, evK_go, reduceIte, Nat.reduceEqDiff, Nat.reduceLT, true_and]
  refine OrH.l (OrH.l (cdK_split (fun hn => ?_) (fun hn => ?_)))
  rotate_left
  · simp (implicitDefEqProofs := false) (dsimp := false) only [chk, hn, ↓aw_seq, ↓aw_ret, ↓aw_reg, ↓Qseq_n, ↓Qseq_r, ↓Qret_r, ↓ops_nil, ↓ops_cons, ↓eval_tmp, ↓eval_int, ↓put_some, ↓op_assign, ↓td_d, ↓ret_1, List.getD_cons_zero, List.getD_cons_succ, List.set_cons_zero, List.set_cons_succ, Nat.reduceAdd, Nat.reduceSub, Nat.reduceMul, evK_go, reduceIte, Bool.not_false, Nat.reduceEqDiff, Nat.reduceLT]
  simp (implicitDefEqProofs := false) (dsimp := false) only [↓aw_cond, ↓aw_seq, ↓aw_skip, ↓aw_reg, ↓Qseq_n, ↓ops_nil, ↓ops_cons, ↓eval_tmp, ↓eval_int, ↓put_some, ↓bK_b, ↓lenK_l, ↓binE_i, ↓bi_gtr, ↓op_move, ↓op_bin, ↓op_len, ↓sl22, List.getD_cons_zero, List.getD_cons_succ, List.set_cons_zero, List.set_cons_succ, List.length_map, Nat.reduceAdd, Nat.reduceSub, Nat.reduceMul, evK_go, reduceIte, Nat.reduceEqDiff, Nat.reduceLT]
  refine cdK_dec (fun h24 => ?_) (fun h24 => ?_)
  · have h24' : 24 < l.length := by omega
    simp (implicitDefEqProofs := false) (dsimp := false) only [chk, hn, h24', Bool.true_eq_false, ↓aw_seq, ↓aw_ret, ↓aw_reg, ↓Qseq_n, ↓Qseq_r, ↓Qret_r, ↓ops_nil, ↓ops_cons, ↓eval_tmp, ↓eval_int, ↓put_some, ↓op_assign, ↓td_d, ↓ret_1, List.getD_cons_zero, List.getD_cons_succ, List.set_cons_zero, List.set_cons_succ, Nat.reduceAdd, Nat.reduceSub, Nat.reduceMul, evK_go, reduceIte, Bool.not_true, Nat.reduceEqDiff, Nat.reduceLT]
  have h24' : ¬ 24 < l.length := by omega
  have hc : chk n l = firstErr (lineErr n) l := by simp [chk, hn, h24']
  rw [hc]
  simp (implicitDefEqProofs := false) (dsimp := false) only [↓aw_seq, ↓aw_block, ↓aw_skip, ↓aw_loop, ↓aw_reg, ↓Qseq_n, ↓ops_nil, ↓ops_cons, ↓eval_int, ↓put_some, ↓op_assign, List.set_cons_zero, List.set_cons_succ, Nat.reduceAdd, Nat.reduceSub, Nat.reduceMul, evK_go, reduceIte, Nat.reduceEqDiff, Nat.reduceLT]
  have hn' : 1 ≤ n ∧ n ≤ 8 := by simpa [inB] using hn
  refine loopW (fun k : Nat => { tm := slots 49 [(0, .d (I .i64 n)), (1, .d (.l (l.map lnD))), (5, .d (I .i64 k))], bx := [], rw := [] })
    (fun k => k ≤ l.length ∧ firstErr (lineErr n) (l.take k) = 0) (fun k => l.length - k) 0 ⟨by simp, by simp [firstErr]⟩ ?_ ?_
  · refine Wkn.of [] [] ?_
    simp (implicitDefEqProofs := false) (dsimp := false) only [List.set_cons_zero, List.set_cons_succ, Bool.and_self, Nat.reduceAdd, Nat.reduceSub, Nat.reduceMul, List.replicate, evK_go, reduceIte, Nat.reduceEqDiff, Nat.reduceLT, and_self, List.foldl_cons, List.foldl_nil, Int.cast_ofNat_Int, slots, wkL_nil, wkL_cons, wkB_nil, wkR_nil, wkV_j, wkV_d, frz_d, reduceCtorEq]
  · rintro k ⟨h1, h2⟩
    simp (implicitDefEqProofs := false) (dsimp := false) only [slots, ↓aw_cond, ↓aw_seq, ↓aw_reg, ↓Qseq_n, ↓ops_nil, ↓ops_cons, ↓eval_tmp, ↓put_some, ↓bK_b, ↓lenK_l, ↓binE_i, ↓bi_lss, ↓op_move, ↓op_bin, ↓op_len, ↓sl22, List.getD_cons_zero, List.getD_cons_succ, List.set_cons_zero, List.set_cons_succ, List.length_map, Nat.reduceAdd, Nat.reduceSub, Nat.reduceMul, List.replicate, evK_go, reduceIte, Nat.reduceEqDiff, Nat.reduceLT, List.foldl_cons, List.foldl_nil, Int.ofNat_lt]
    refine cdK_dec (fun h => ?_) (fun h => ?_)
    · obtain ⟨g1, g2⟩ := firstErr_take h h2
      simp (implicitDefEqProofs := false) (dsimp := false) only [h, lnD, in1_call, ↓cdK_not, ↓gdK_f, ↓gval_mk, ↓gvL_zero, ↓gvL_succ, ↓atK_H, ↓atH_map, ↓aw_seq, ↓aw_block, ↓aw_skip, ↓aw_reg, ↓Qseq_n, ↓ops_cons, ↓ops_guard, ↓eval_tmp, ↓eval_int, ↓eval_func, ↓put_some, ↓bK_b, ↓iK_i, ↓binE_i, ↓bi_sub, ↓in_i64, ↓ldK_q, ↓faK_q, ↓iaK_l, ↓op_move, ↓op_load, ↓op_bin, ↓op_not, ↓op_fa, ↓op_ia, ↓op_call, isD_d, ↓fnK_f, ↓call_H, ↓callK_H, ↓allT_nil, ↓allT_cons, ↓td_d, ↓st_tm, ↓cells_s, ↓hd_cons, ↓ty3, ↓sl22, ↓ty35, ↓fd35_0, List.getD_cons_zero, List.getD_cons_succ, List.set_cons_zero, List.set_cons_succ, List.append_nil, List.length_cons, List.length_nil, List.all_cons, List.all_nil, Bool.true_and, Bool.and_self, Bool.true_or, Nat.reduceAdd, Nat.reduceSub, Nat.reduceMul, Nat.zero_add, Int.toNat_natCast, evK_go, reduceIte, decide_true, Nat.reduceEqDiff, Nat.reduceLT, and_self, true_and, Int.zero_add, List.drop_zero, Int.natCast_nonneg]
      refine ⟨by omega, OrH.l (OrH.l (cdK_split (fun ha => ?_) (fun ha => ?_)))⟩
      rotate_left
      · have e : lineErr n (l.getD k default) = 1 := by simp (implicitDefEqProofs := false) (dsimp := false) only [lineErr, ha, Bool.false_and, reduceIte]
        rw [g2 (by rw [e]; decide), e]
        simp (implicitDefEqProofs := false) (dsimp := false) only [ha, ↓cdK_true, ↓gdK_f, ↓gval_mk, ↓gvL_zero, ↓gvL_succ, ↓aw_cond, ↓aw_seq, ↓aw_ret, ↓aw_reg, ↓Qseq_n, ↓Qseq_r, ↓Qblk_r, ↓Qret_r, ↓ops_nil, ↓ops_cons, ↓ops_guard, ↓eval_tmp, ↓eval_int, ↓eval_bool, ↓put_some, ↓bK_b, ↓op_assign, ↓op_pick, ↓td_d, ↓ret_1, ↓st_tm, List.getD_cons_zero, List.getD_cons_succ, List.set_cons_zero, List.set_cons_succ, Nat.reduceAdd, Nat.reduceSub, Nat.reduceMul, evK_go, reduceIte, Bool.not_false, Nat.reduceEqDiff, Nat.reduceLT]
      simp (implicitDefEqProofs := false) (dsimp := false) only [ha, h, lnD, in1_call, ↓cdK_false, ↓cdK_not, ↓gdK_f, ↓gval_mk, ↓gvL_zero, ↓gvL_succ, ↓atK_H, ↓atH_map, ↓aw_cond, ↓Qseq_n, ↓ops_nil, ↓ops_cons, ↓ops_guard, ↓eval_tmp, ↓eval_int, ↓eval_func, ↓put_some, ↓bK_b, ↓iK_i, ↓binE_i, ↓bi_sub, ↓in_i64, ↓ldK_q, ↓faK_q, ↓iaK_l, ↓op_move, ↓op_pick, ↓op_load, ↓op_bin, ↓op_not, ↓op_fa, ↓op_ia, ↓op_call, isD_d, ↓fnK_f, ↓call_H, ↓callK_H, ↓allT_nil, ↓allT_cons, ↓td_d, ↓st_tm, ↓cells_s, ↓hd_cons, ↓ty3, ↓sl22, ↓ty35, ↓fd35_1, List.getD_cons_zero, List.getD_cons_succ, List.set_cons_zero, List.set_cons_succ, List.append_nil, List.length_cons, List.length_nil, List.all_cons, List.all_nil, Bool.true_and, Bool.and_self, Bool.true_or, Nat.reduceAdd, Nat.reduceSub, Nat.reduceMul, Nat.zero_add, Int.toNat_natCast, evK_go, reduceIte, Bool.not_true, Nat.reduceEqDiff, Nat.reduceLT, and_self, true_and, Int.zero_add, List.drop_zero, List.drop_succ_cons, Int.natCast_nonneg]
      refine ⟨by omega, OrH.l (OrH.l (cdK_split (fun hb => ?_) (fun hb => ?_)))⟩
      · simp (implicitDefEqProofs := false) (dsimp := false) only [hb, h, lnD, ↓atK_H, ↓atH_map, ↓aw_cond, ↓aw_seq, ↓aw_skip, ↓aw_draw, ↓Qseq_n, ↓eval_tmp, ↓put_some, ↓bK_b, ↓iK_i, ↓ev_move, ↓ev_load, ↓ev_bin, ↓ev_fa, ↓ev_ia, ↓binE_i, ↓bi_eql, ↓ldK_q, ↓faK_q, ↓iaK_l, ↓draw_H, ↓h_nil, ↓h_cons, ↓ldH_n, ↓q_move, ↓q_load, ↓q_bin, ↓q_fa, ↓q_ia, ↓il_move, ↓il_load, ↓il_bin, ↓il_fa, ↓il_ia, ↓cells_s, ↓hd_cons, ↓ty3, ↓sl22, ↓ty35, ↓fd35_0, ↓fd35_1, List.getD_cons_zero, List.getD_cons_succ, List.set_cons_zero, List.set_cons_succ, List.length_cons, List.length_nil, Bool.true_and, Nat.reduceAdd, Nat.reduceSub, Nat.reduceMul, Nat.zero_add, Int.toNat_natCast, evK_go, reduceIte, Bool.not_true, Nat.reduceEqDiff, Nat.reduceLT, true_and, Int.zero_add, List.drop_zero, List.drop_succ_cons, Int.natCast_nonneg]
        refine OrH.l ⟨DrawH.of follows_mixed (by kernel_rfl), cdK_dec (fun he => ?_) (fun he => ?_)⟩
        · have e : lineErr n (l.getD k default) = 3 := by unfold lineErr; rw [ha, hb, if_neg (by decide), if_pos he]
          rw [g2 (by rw [e]; decide), e]
          simp (implicitDefEqProofs := false) (dsimp := false) only [↓aw_seq, ↓aw_ret, ↓aw_reg, ↓Qseq_n, ↓Qseq_r, ↓Qblk_r, ↓Qret_r, ↓ops_nil, ↓ops_cons, ↓eval_tmp, ↓eval_int, ↓put_some, ↓op_assign, ↓td_d, ↓ret_1, List.getD_cons_zero, List.getD_cons_succ, List.set_cons_zero, List.set_cons_succ, Nat.reduceAdd, Nat.reduceSub, Nat.reduceMul, evK_go, reduceIte, Nat.reduceEqDiff, Nat.reduceLT]
        · have e : lineErr n (l.getD k default) = 0 := by simp (implicitDefEqProofs := false) (dsimp := false) only [lineErr, ha, hb, he, Bool.and_self, reduceIte, Bool.true_eq_false]
          simp (implicitDefEqProofs := false) (dsimp := false) only [↓aw_skip, ↓aw_reg, ↓Qseq_n, ↓Qblk_n, ↓ops_nil, ↓ops_cons, ↓eval_tmp, ↓eval_int, ↓put_some, ↓binE_i, ↓bi_add, ↓in_i64, ↓op_move, ↓op_assign, ↓op_bin, List.getD_cons_zero, List.getD_cons_succ, List.set_cons_zero, List.set_cons_succ, Nat.reduceAdd, Nat.reduceSub, Nat.reduceMul, evK_go, reduceIte, Nat.reduceEqDiff, Nat.reduceLT]
          refine ⟨by omega, k + 1, ⟨by omega, g1 e⟩, by omega, ?_⟩
          refine Wkn.of [] [] ?_
          simp (implicitDefEqProofs := false) (dsimp := false) only [List.set_cons_zero, List.set_cons_succ, Bool.and_self, Nat.reduceAdd, Nat.reduceSub, Nat.reduceMul, List.replicate, evK_go, reduceIte, Nat.reduceEqDiff, Nat.reduceLT, and_self, List.foldl_cons, List.foldl_nil, Int.cast_ofNat_Int, Int.natCast_add, slots, wkL_nil, wkL_cons, wkB_nil, wkR_nil, wkV_j, wkV_d, frz_d, reduceCtorEq]
      · have e : lineErr n (l.getD k default) = 1 := by simp (implicitDefEqProofs := false) (dsimp := false) only [lineErr, hb, Bool.and_false, reduceIte]
        rw [g2 (by rw [e]; decide), e]
        simp (implicitDefEqProofs := false) (dsimp := false) only [hb, ↓aw_seq, ↓aw_ret, ↓aw_reg, ↓Qseq_n, ↓Qseq_r, ↓Qblk_r, ↓Qret_r, ↓ops_nil, ↓ops_cons, ↓eval_tmp, ↓eval_int, ↓put_some, ↓op_assign, ↓td_d, ↓ret_1, List.getD_cons_zero, List.getD_cons_succ, List.set_cons_zero, List.set_cons_succ, Nat.reduceAdd, Nat.reduceSub, Nat.reduceMul, evK_go, reduceIte, Bool.not_false, Nat.reduceEqDiff, Nat.reduceLT]
    · obtain rfl : k = l.length := by omega
      rw [List.take_length] at h2
      simp (implicitDefEqProofs := false) (dsimp := false) only [h2, ↓aw_seq, ↓aw_exit, ↓aw_ret, ↓aw_reg, ↓Qseq_n, ↓Qseq_x, ↓Qblk_x, ↓Qret_r, ↓ops_nil, ↓ops_cons, ↓eval_tmp, ↓eval_int, ↓put_some, ↓op_assign, ↓td_d, ↓ret_1, List.getD_cons_zero, List.getD_cons_succ, List.set_cons_zero, List.set_cons_succ, Nat.reduceAdd, Nat.reduceSub, Nat.reduceMul, evK_go, reduceIte, decide_false, Nat.reduceEqDiff, Nat.reduceLT, Nat.lt_irrefl]
theorem lines_call (n : Int) (l : List (Int × Int)) (pure : Bool) (σ : St) (dst : Option Tmp) (K : St → Prop) : CallH Try.prog 38 [I .i64 n, .l (l.map lnD)] pure σ dst (.mk : Hid K) = OrH ((l.length < 2 ^ 62) ∧ (pure || D.flat (I .i64 (chk n l))) = true ∧ evK (σ.put dst (.d (I .i64 (chk n l)))) (.mk : Hid K)) (.mk : Hid (CallH Try.prog 38 [I .i64 n, .l (l.map lnD)] pure σ dst (.mk : Hid K))) := CallH.eq (lines_spec n l) pure σ dst K
theorem lines_callQ (n : Int) (l : List (Int × Int)) (pure : Bool) (C : V → Prop) : CallQ Try.prog 38 [I .i64 n, .l (l.map lnD)] pure (.mk : Hid C) = OrH ((l.length < 2 ^ 62) ∧ (pure || D.flat (I .i64 (chk n l))) = true ∧ evK (V.d (I .i64 (chk n l))) (.mk : Hid C)) (.mk : Hid (CallQ Try.prog 38 [I .i64 n, .l (l.map lnD)] pure (.mk : Hid C))) := CallQ.eq (lines_spec n l) pure C
end Go.Proofs

namespace Go.Proofs
open Go.Aw
set_option linter.unusedSimpArgs false
set_option maxRecDepth 10000
def cfL : List (Int × Int) := [(0, 1), (1, 2), (0, 2)]
theorem cf1_spec  : FnD Try.prog 37 [I .i64 3, .l [.s [I .i64 0, I .i64 1], .s [I .i64 1, I .i64 2], .s [I .i64 0, I .i64 2]]] (.t [.l [.l [I .i64 1, I .i64 2], .l [I .i64 2], .l []], erD 0]) := by
  have h := call_spec 3 cfL (by decide)
  rw [show closeAll 3 cfL = [[1, 2], [2], []] by decide +kernel, show chk 3 cfL = 0 by decide +kernel] at h
  exact h
theorem cf1_call  (pure : Bool) (σ : St) (dst : Option Tmp) (K : St → Prop) : CallH Try.prog 37 [I .i64 3, .l [.s [I .i64 0, I .i64 1], .s [I .i64 1, I .i64 2], .s [I .i64 0, I .i64 2]]] pure σ dst (.mk : Hid K) = OrH ((pure || D.flat (.t [.l [.l [I .i64 1, I .i64 2], .l [I .i64 2], .l []], erD 0])) = true ∧ evK (σ.put dst (.d (.t [.l [.l [I .i64 1, I .i64 2], .l [I .i64 2], .l []], erD 0]))) (.mk : Hid K)) (.mk : Hid (CallH Try.prog 37 [I .i64 3, .l [.s [I .i64 0, I .i64 1], .s [I .i64 1, I .i64 2], .s [I .i64 0, I .i64 2]]] pure σ dst (.mk : Hid K))) := CallH.eq0 (cf1_spec ) pure σ dst K
theorem cf1_callQ  (pure : Bool) (C : V → Prop) : CallQ Try.prog 37 [I .i64 3, .l [.s [I .i64 0, I .i64 1], .s [I .i64 1, I .i64 2], .s [I .i64 0, I .i64 2]]] pure (.mk : Hid C) = OrH ((pure || D.flat (.t [.l [.l [I .i64 1, I .i64 2], .l [I .i64 2], .l []], erD 0])) = true ∧ evK (V.d (.t [.l [.l [I .i64 1, I .i64 2], .l [I .i64 2], .l []], erD 0])) (.mk : Hid C)) (.mk : Hid (CallQ Try.prog 37 [I .i64 3, .l [.s [I .i64 0, I .i64 1], .s [I .i64 1, I .i64 2], .s [I .i64 0, I .i64 2]]] pure (.mk : Hid C))) := CallQ.eq0 (cf1_spec ) pure C
theorem cf2_spec  : FnD Try.prog 40 [I .i64 3, .l [.s [I .i64 0, I .i64 1], .s [I .i64 1, I .i64 2], .s [I .i64 0, I .i64 2]]] (.t [.l [.s [I .i64 0, I .i64 1], .s [I .i64 1, I .i64 2]], erD 0]) := by
  have h := few_spec 3 cfL (by decide)
  rw [show fewR 3 cfL = [(0, 1), (1, 2)] by decide +kernel, show topoE 3 cfL = 0 by decide +kernel] at h
  exact h
theorem cf2_call  (pure : Bool) (σ : St) (dst : Option Tmp) (K : St → Prop) : CallH Try.prog 40 [I .i64 3, .l [.s [I .i64 0, I .i64 1], .s [I .i64 1, I .i64 2], .s [I .i64 0, I .i64 2]]] pure σ dst (.mk : Hid K) = OrH ((pure || D.flat (.t [.l [.s [I .i64 0, I .i64 1], .s [I .i64 1, I .i64 2]], erD 0])) = true ∧ evK (σ.put dst (.d (.t [.l [.s [I .i64 0, I .i64 1], .s [I .i64 1, I .i64 2]], erD 0]))) (.mk : Hid K)) (.mk : Hid (CallH Try.prog 40 [I .i64 3, .l [.s [I .i64 0, I .i64 1], .s [I .i64 1, I .i64 2], .s [I .i64 0, I .i64 2]]] pure σ dst (.mk : Hid K))) := CallH.eq0 (cf2_spec ) pure σ dst K
theorem cf2_callQ  (pure : Bool) (C : V → Prop) : CallQ Try.prog 40 [I .i64 3, .l [.s [I .i64 0, I .i64 1], .s [I .i64 1, I .i64 2], .s [I .i64 0, I .i64 2]]] pure (.mk : Hid C) = OrH ((pure || D.flat (.t [.l [.s [I .i64 0, I .i64 1], .s [I .i64 1, I .i64 2]], erD 0])) = true ∧ evK (V.d (.t [.l [.s [I .i64 0, I .i64 1], .s [I .i64 1, I .i64 2]], erD 0])) (.mk : Hid C)) (.mk : Hid (CallQ Try.prog 40 [I .i64 3, .l [.s [I .i64 0, I .i64 1], .s [I .i64 1, I .i64 2], .s [I .i64 0, I .i64 2]]] pure (.mk : Hid C))) := CallQ.eq0 (cf2_spec ) pure C
theorem cf3_spec  : FnD Try.prog 39 [.l [.l [I .i64 1, I .i64 2], .l [I .i64 2], .l []], .l [.l [I .i64 1, I .i64 2], .l [I .i64 2], .l []]] (Bo true) := by
  have h := erows_spec [[1, 2], [2], []] [[1, 2], [2], []] (by decide)
  exact h
theorem cf3_call  (pure : Bool) (σ : St) (dst : Option Tmp) (K : St → Prop) : CallH Try.prog 39 [.l [.l [I .i64 1, I .i64 2], .l [I .i64 2], .l []], .l [.l [I .i64 1, I .i64 2], .l [I .i64 2], .l []]] pure σ dst (.mk : Hid K) = OrH ((pure || D.flat (Bo true)) = true ∧ evK (σ.put dst (.d (Bo true))) (.mk : Hid K)) (.mk : Hid (CallH Try.prog 39 [.l [.l [I .i64 1, I .i64 2], .l [I .i64 2], .l []], .l [.l [I .i64 1, I .i64 2], .l [I .i64 2], .l []]] pure σ dst (.mk : Hid K))) := CallH.eq0 (cf3_spec ) pure σ dst K
theorem cf3_callQ  (pure : Bool) (C : V → Prop) : CallQ Try.prog 39 [.l [.l [I .i64 1, I .i64 2], .l [I .i64 2], .l []], .l [.l [I .i64 1, I .i64 2], .l [I .i64 2], .l []]] pure (.mk : Hid C) = OrH ((pure || D.flat (Bo true)) = true ∧ evK (V.d (Bo true)) (.mk : Hid C)) (.mk : Hid (CallQ Try.prog 39 [.l [.l [I .i64 1, I .i64 2], .l [I .i64 2], .l []], .l [.l [I .i64 1, I .i64 2], .l [I .i64 2], .l []]] pure (.mk : Hid C))) := CallQ.eq0 (cf3_spec ) pure C
theorem cf4_spec  : FnD Try.prog 61 [.l [.s [I .i64 0, I .i64 1], .s [I .i64 1, I .i64 2]], .l [.s [I .i64 0, I .i64 1], .s [I .i64 1, I .i64 2]]] (Bo true) := by
  have h := elines_spec [(0, 1), (1, 2)] [(0, 1), (1, 2)] (by decide)
  exact h
theorem cf4_call  (pure : Bool) (σ : St) (dst : Option Tmp) (K : St → Prop) : CallH Try.prog 61 [.l [.s [I .i64 0, I .i64 1], .s [I .i64 1, I .i64 2]], .l [.s [I .i64 0, I .i64 1], .s [I .i64 1, I .i64 2]]] pure σ dst (.mk : Hid K) = OrH ((pure || D.flat (Bo true)) = true ∧ evK (σ.put dst (.d (Bo true))) (.mk : Hid K)) (.mk : Hid (CallH Try.prog 61 [.l [.s [I .i64 0, I .i64 1], .s [I .i64 1, I .i64 2]], .l [.s [I .i64 0, I .i64 1], .s [I .i64 1, I .i64 2]]] pure σ dst (.mk : Hid K))) := CallH.eq0 (cf4_spec ) pure σ dst K
theorem cf4_callQ  (pure : Bool) (C : V → Prop) : CallQ Try.prog 61 [.l [.s [I .i64 0, I .i64 1], .s [I .i64 1, I .i64 2]], .l [.s [I .i64 0, I .i64 1], .s [I .i64 1, I .i64 2]]] pure (.mk : Hid C) = OrH ((pure || D.flat (Bo true)) = true ∧ evK (V.d (Bo true)) (.mk : Hid C)) (.mk : Hid (CallQ Try.prog 61 [.l [.s [I .i64 0, I .i64 1], .s [I .i64 1, I .i64 2]], .l [.s [I .i64 0, I .i64 1], .s [I .i64 1, I .i64 2]]] pure (.mk : Hid C))) := CallQ.eq0 (cf4_spec ) pure C
theorem cfact_spec  : FnD Try.prog 36 [] (Bo true) := by
  refine FnD.go Try.func36 rfl rfl Try.results36 Try.ntmps36 ?_
  simp (implicitDefEqProofs := false) (dsimp := false) only [↓aw_seq, ↓aw_reg, ↓Qseq_n, ↓ops_nil, ↓ops_cons, ↓eval_tmp, ↓eval_int, ↓eval_bool, ↓eval_func, ↓put_some, ↓dK_d, ↓op_move, ↓op_assign, ↓op_build, ↓op_call, isD_d, ↓fnK_f, ↓call_H, ↓callK_H, ↓allT_nil, ↓allT_cons, ↓allD_nil, ↓allD_cons, ↓td_d, ↓cells_c, ↓cells_s, ↓one_i, ↓bs_, ↓op_bs, ↓bsL_f, ↓stored_mk, ↓sl_nil, ↓sl_cons, ↓sT_assign, ↓sT_build, ↓sT_bs, ↓vsz_agg, ↓inO_3, ↓fm_nil, ↓fm_cons, ↓sl22, ↓ty35, ↓zb35, ↓bd35, List.getD_cons_zero, List.getD_cons_succ, List.set_cons_zero, List.set_cons_succ, List.cons_append, List.nil_append, List.append_nil, List.map_cons, List.map_nil, List.length_cons, List.length_nil, List.all_cons, List.all_nil, Bool.true_and, Bool.and_self, Bool.or_false, Nat.reduceAdd, Nat.reduceSub, Nat.reduceMul, Nat.zero_add, List.replicate, evK_go, reduceIte, Nat.reduceEqDiff, Nat.reduceLT, and_self, true_and, Int.zero_add]
  simp (implicitDefEqProofs := false) (dsimp := false) only [cf1_call, cf2_call, cf3_call, cf4_call, eval_nilI, ↓er_eql, ↓cdK_true, ↓gdK_t, ↓gval_mk, ↓gvL_zero, ↓gvL_succ, ↓nthK_H, ↓nthH_zero, ↓nthH_succ, ↓aw_seq, ↓aw_ret, ↓aw_reg, ↓Qseq_n, ↓Qret_r, ↓ops_nil, ↓ops_cons, ↓ops_guard, ↓eval_tmp, ↓eval_int, ↓eval_func, ↓put_some, ↓bK_b, ↓dK_d, ↓tK_t, ↓op_move, ↓op_assign, ↓op_pick, ↓op_bin, ↓op_extract, ↓op_build, ↓op_call, ↓orH_T, isD_d, ↓fnK_f, ↓call_H, ↓callK_H, ↓allT_nil, ↓allT_cons, ↓allD_nil, ↓allD_cons, ↓td_d, ↓ret_1, ↓st_tm, ↓cells_c, ↓cells_s, ↓cells_l, ↓one_i, ↓one_l, ↓bs_, ↓op_bs, ↓bsL_f, ↓stored_mk, ↓sl_nil, ↓sl_cons, ↓sT_move, ↓sT_assign, ↓sT_pick, ↓sT_bin, ↓sT_build, ↓sT_bs, ↓sT_call, ↓vsz_int, ↓vsz_slice, ↓vsz_agg, ↓inO_1, ↓inO_2, ↓inO_3, ↓fm_nil, ↓fm_cons, ↓ty3, ↓zb3, ↓sl22, ↓ty28, ↓sl28, ↓zb28, ↓ty35, ↓zb35, ↓bd35, ↓sl44, List.getD_cons_zero, List.getD_cons_succ, List.set_cons_zero, List.set_cons_succ, List.cons_append, List.nil_append, List.append_nil, List.map_cons, List.map_nil, List.length_cons, List.length_nil, List.all_cons, List.all_nil, Bool.and_true, Bool.true_and, Bool.and_self, Bool.true_or, Bool.or_false, Nat.reduceAdd, Nat.reduceSub, Nat.reduceMul, Nat.zero_add, evK_go, reduceIte, decide_true, Nat.reduceEqDiff, Nat.reduceLT, and_self, true_and, and_true, Int.zero_add]
  exact ⟨⟨rfl, by decide⟩, OrH.l (OrH.l (OrH.l (OrH.l ⟨by decide, by decide, ⟨rfl, by decide⟩, by decide, OrH.l (OrH.l ⟨rfl, by decide⟩)⟩)))⟩
theorem cfact_call  (pure : Bool) (σ : St) (dst : Option Tmp) (K : St → Prop) : CallH Try.prog 36 [] pure σ dst (.mk : Hid K) = OrH ((pure || D.flat (Bo true)) = true ∧ evK (σ.put dst (.d (Bo true))) (.mk : Hid K)) (.mk : Hid (CallH Try.prog 36 [] pure σ dst (.mk : Hid K))) := CallH.eq0 (cfact_spec ) pure σ dst K
theorem cfact_callQ  (pure : Bool) (C : V → Prop) : CallQ Try.prog 36 [] pure (.mk : Hid C) = OrH ((pure || D.flat (Bo true)) = true ∧ evK (V.d (Bo true)) (.mk : Hid C)) (.mk : Hid (CallQ Try.prog 36 [] pure (.mk : Hid C))) := CallQ.eq0 (cfact_spec ) pure C
end Go.Proofs

namespace Go.Proofs
open Go.Aw
set_option linter.unusedSimpArgs false
set_option maxRecDepth 10000
/-- What is known of where ways go. -/
structure CW (n : Int) (l : List (Int × Int)) (M : List (List Int)) (m : Nat) : Prop where
  n0 : n = (m : Int)
  hi : m ≤ 8
  llen : l.length ≤ 24
  len : M.length = m
  sz : ∀ i : Nat, (M.getD i default).length ≤ 64
  line : ∀ p ∈ l, ∃ x y : Nat, p = ((x : Int), (y : Int)) ∧ x < m ∧ y < m ∧ x ≠ y ∧ (y : Int) ∈ M.getD x default
  pt : ∀ (a : Nat) (b : Int), b ∈ M.getD a default → ∃ c : Nat, b = (c : Int) ∧ c < m ∧ a < m
  tr : ∀ (a b : Nat) (c : Int), (b : Int) ∈ M.getD a default → c ∈ M.getD b default → c ∈ M.getD a default
theorem closeW {n : Int} {l : List (Int × Int)} (hc : chk n l = 0) : CW n l (closeAll n l) n.toNat := by
  have ok := chk_ok hc
  have e : closeAll n l = (war n.toNat (natL l)).map ptsI := if_pos hc
  have hk : ∀ (i : Nat) (j : Int), j ∈ (closeAll n l).getD i default ↔ ∃ c : Nat, j = (c : Int) ∧ Path1 (natL l) i c := fun i j => by
    rw [e, mapP_get]
    constructor
    · intro h
      obtain ⟨c, hc1, rfl⟩ := List.mem_map.1 h
      exact ⟨c, rfl, (war_bit ok.good _ _).1 ((pts_mem _ _).1 hc1).2⟩
    · rintro ⟨c, rfl, h⟩
      have := (h.lt ok.good).2
      have := ok.hi
      exact (ptsI_mem _ _).2 ⟨by omega, (war_bit ok.good _ _).2 h⟩
  refine ⟨ok.n0, ok.hi, ok.len, by rw [e, List.length_map]; exact war_len ok.good, fun i => by rw [e, mapP_get]; exact ptsI_len _, fun p hp => ?_, fun a b hb => ?_, fun a b c hb hc => ?_⟩
  · have h1 := ok.rng p hp
    have h2 : natP p ∈ natL l := List.mem_map.2 ⟨p, hp, rfl⟩
    have h3 := ok.good _ h2
    refine ⟨p.1.toNat, p.2.toNat, ?_, h3.1, h3.2, ok.ne _ h2, ?_⟩
    · rw [Int.toNat_of_nonneg h1.1, Int.toNat_of_nonneg h1.2]
    · exact (hk _ _).2 ⟨_, rfl, p.2.toNat, h2, .refl⟩
  · obtain ⟨c, rfl, h⟩ := (hk _ _).1 hb
    have := h.lt ok.good
    exact ⟨c, rfl, this.2, this.1⟩
  · obtain ⟨x, hx, h1⟩ := (hk _ _).1 hb
    obtain ⟨y, rfl, h2⟩ := (hk _ _).1 hc
    cases Int.ofNat_inj.1 hx
    exact (hk _ _).2 ⟨y, rfl, h1.trans h2.path⟩
theorem closeW_more {n : Int} {l : List (Int × Int)} (hc : chk n l = 0) {a b : Nat} (hb : (b : Int) ∈ (closeAll n l).getD a default) (hab : a ≠ b) (h24 : l.length < 24) :
    chk n (l ++ [((a : Int), (b : Int))]) = 0 ∧ closeAll n (l ++ [((a : Int), (b : Int))]) = closeAll n l := by
  have ok := chk_ok hc
  have cw := closeW hc
  obtain ⟨c, h1, h2, h3⟩ := cw.pt a b hb
  cases Int.ofNat_inj.1 h1
  have n0 := ok.n0
  have h0 : chk n (l ++ [((a : Int), (b : Int))]) = 0 := by
    rw [chk_iff] at hc ⊢
    refine ⟨hc.1, by simp; omega, fun p hp => ?_⟩
    rcases List.mem_append.1 hp with hp | hp
    · exact hc.2.2 p hp
    · rw [List.mem_singleton.1 hp, lineErr_iff]
      exact ⟨⟨by simp, by simp; omega⟩, ⟨by simp, by simp; omega⟩, by simp; omega⟩
  refine ⟨h0, ?_⟩
  have ok2 := chk_ok h0
  have hb' := hb
  unfold closeAll
  rw [if_pos h0, if_pos hc]
  have e : natL (l ++ [((a : Int), (b : Int))]) = natL l ++ [(a, b)] := by simp [natL, natP]
  have hg2 := ok2.good
  rw [e] at hg2 ⊢
  have hp : Path1 (natL l) a b := by
    have e : closeAll n l = (war n.toNat (natL l)).map ptsI := if_pos hc
    rw [e, mapP_get] at hb
    exact (war_bit ok.good _ _).1 ((ptsI_mem _ _).1 hb).2
  have hw : war n.toNat (natL l ++ [(a, b)]) = war n.toNat (natL l) := by
    refine List.ext_getElem (by rw [war_len hg2, war_len ok.good]) fun i h1 h2 => ?_
    apply bits_eq
    intro j
    have g1 := war_bit hg2 i j
    have g2 := war_bit ok.good i j
    rw [List.getD_eq_getElem?_getD, List.getElem?_eq_getElem h1, Option.getD_some] at g1
    rw [List.getD_eq_getElem?_getD, List.getElem?_eq_getElem h2, Option.getD_some] at g2
    rw [Bool.eq_iff_iff, g1, g2]
    exact path1_more hp
  rw [hw]
theorem lCloseWays_spec (n : Int) (l : List (Int × Int)) (_hn : -9223372036854775808 ≤ n ∧ n ≤ 9223372036854775807) (hpre : l.length < 2 ^ 43) : FnD Try.prog 7 [I .i64 n, .l (l.map lnD)] (Bo true) := by
  have hl62 : l.length < 2 ^ 62 := by omega
  refine FnD.go Try.func7 rfl rfl Try.results7 Try.ntmps7 ?_
  simp (implicitDefEqProofs := false) (dsimp := false) only [↓aw_seq, ↓aw_reg, ↓Qseq_n, ↓ops_nil, ↓ops_cons, ↓eval_bool, ↓eval_func, ↓put_some, ↓op_assign, ↓op_call, isD_d, ↓fnK_f, ↓call_H, ↓callK_H, ↓allT_nil, ↓td_d, List.set_cons_zero, List.set_cons_succ, List.cons_append, List.nil_append, List.append_nil, List.map_cons, List.map_nil, List.length_cons, List.length_nil, List.all_nil, Bool.and_self, Nat.reduceAdd, Nat.reduceSub, Nat.reduceMul, Nat.zero_add, List.replicate, evK_go, reduceIte, Nat.reduceEqDiff, Nat.reduceLT, and_self, Int.zero_add]
  simp (implicitDefEqProofs := false) (dsimp := false) only [cfact_call, call_call, hl62, eval_nilI, ↓er_neq, ↓cdK_false, ↓cdK_not, ↓nthK_H, ↓nthH_zero, ↓nthH_succ, ↓aw_cond, ↓aw_seq, ↓aw_skip, ↓aw_reg, ↓Qseq_n, ↓ops_nil, ↓ops_cons, ↓eval_tmp, ↓eval_func, ↓put_some, ↓bK_b, ↓tK_t, ↓op_move, ↓op_assign, ↓op_bin, ↓op_not, ↓op_extract, ↓op_call, isD_d, ↓fnK_f, ↓call_H, ↓callK_H, ↓allT_nil, ↓allT_cons, ↓td_d, List.getD_cons_zero, List.getD_cons_succ, List.set_cons_zero, List.set_cons_succ, List.append_nil, List.all_cons, List.all_nil, Bool.true_and, Bool.and_self, Bool.true_or, Nat.reduceAdd, Nat.reduceSub, Nat.reduceMul, evK_go, reduceIte, Bool.not_true, Nat.reduceEqDiff, Nat.reduceLT, and_self, true_and]
  refine OrH.l (OrH.l (OrH.l (OrH.l (cdK_dec (fun hc => ?_) (fun hc => ?_)))))
  rotate_left
  · have e1 : closeAll n l = [] := if_neg hc
    simp (implicitDefEqProofs := false) (dsimp := false) only [e1, ↓aw_seq, ↓aw_ret, ↓aw_reg, ↓Qseq_n, ↓Qseq_r, ↓Qret_r, ↓ops_nil, ↓ops_cons, ↓eval_tmp, ↓eval_int, ↓put_some, ↓lenK_l, ↓binE_i, ↓bi_eql, ↓op_move, ↓op_assign, ↓op_bin, ↓op_len, ↓td_d, ↓ret_1, ↓sl44, List.getD_cons_zero, List.getD_cons_succ, List.set_cons_zero, List.set_cons_succ, List.map_nil, List.length_nil, Nat.reduceAdd, Nat.reduceSub, Nat.reduceMul, evK_go, reduceIte, decide_true, Nat.reduceEqDiff, Nat.reduceLT, Int.cast_ofNat_Int]
  have cw := closeW hc
  have more : ∀ a b : Nat, (b : Int) ∈ (closeAll n l).getD a default → a ≠ b → l.length < 24 → chk n (l ++ [((a : Int), (b : Int))]) = 0 ∧ closeAll n (l ++ [((a : Int), (b : Int))]) = closeAll n l := fun a b h1 h2 h3 => closeW_more hc h1 h2 h3
  generalize hM : closeAll n l = M at cw more ⊢
  generalize n.toNat = m at cw
  have e0 := cw.n0
  have h8 := cw.hi
  have hML : ((M.length : Nat) : Int) = n := by rw [cw.len, e0]
  simp (implicitDefEqProofs := false) (dsimp := false) only [lines_call, hc, hl62, hML, ↓cdK_false, ↓gdK_f, ↓gval_mk, ↓gvL_zero, ↓gvL_succ, ↓aw_cond, ↓aw_seq, ↓aw_block, ↓aw_skip, ↓aw_loop, ↓aw_reg, ↓Qseq_n, ↓ops_nil, ↓ops_cons, ↓ops_guard, ↓eval_tmp, ↓eval_int, ↓eval_func, ↓put_some, ↓bK_b, ↓lenK_l, ↓binE_i, ↓bi_neq, ↓op_move, ↓op_assign, ↓op_pick, ↓op_bin, ↓op_len, ↓op_call, isD_d, ↓fnK_f, ↓call_H, ↓callK_H, ↓allT_nil, ↓allT_cons, ↓td_d, ↓st_tm, ↓sl44, List.getD_cons_zero, List.getD_cons_succ, List.set_cons_zero, List.set_cons_succ, List.append_nil, List.length_map, List.all_cons, List.all_nil, Bool.true_and, Bool.and_self, Bool.true_or, Nat.reduceAdd, Nat.reduceSub, Nat.reduceMul, evK_go, reduceIte, decide_true, Bool.not_true, Nat.reduceEqDiff, Nat.reduceLT, and_self, true_and]
  refine OrH.l (OrH.l ?_)
  refine loopW (fun k : Nat => { tm := slots 139 [(0, .d (I .i64 n)), (1, .d (.l (l.map lnD))), (6, .d (.l (M.map liD))), (8, .d (I .i64 k))], bx := [], rw := [] })
    (fun k => k ≤ l.length) (fun k => l.length - k) 0 (by simp) ?_ ?_
  · refine Wkn.of [] [] ?_
    simp (implicitDefEqProofs := false) (dsimp := false) only [List.set_cons_zero, List.set_cons_succ, Bool.and_self, Nat.reduceAdd, Nat.reduceSub, Nat.reduceMul, List.replicate, evK_go, reduceIte, Nat.reduceEqDiff, Nat.reduceLT, and_self, List.foldl_cons, List.foldl_nil, Int.cast_ofNat_Int, slots, wkL_nil, wkL_cons, wkB_nil, wkR_nil, wkV_j, wkV_d, frz_d, reduceCtorEq]
  · intro k hk
    simp (implicitDefEqProofs := false) (dsimp := false) only [slots, ↓aw_cond, ↓aw_seq, ↓aw_reg, ↓Qseq_n, ↓ops_nil, ↓ops_cons, ↓eval_tmp, ↓put_some, ↓bK_b, ↓lenK_l, ↓binE_i, ↓bi_lss, ↓op_move, ↓op_bin, ↓op_len, ↓sl22, List.getD_cons_zero, List.getD_cons_succ, List.set_cons_zero, List.set_cons_succ, List.length_map, Nat.reduceAdd, Nat.reduceSub, Nat.reduceMul, List.replicate, evK_go, reduceIte, Nat.reduceEqDiff, Nat.reduceLT, List.foldl_cons, List.foldl_nil, Int.ofNat_lt]
    refine cdK_dec (fun h => ?_) (fun h => ?_)
    · obtain ⟨x, y, hxy, hx, hy, hne, hmem⟩ := cw.line _ (getD_mem h)
      have hx' : x < M.length := by rw [cw.len]; exact hx
      have hs := cw.sz x
      have hs' : (M.getD x default).length < 2 ^ 62 := by omega
      simp (implicitDefEqProofs := false) (dsimp := false) only [h, lnD, hxy, hx', liD, hasR_callQ, hs', hmem, ↓cdK_false, ↓atK_H, ↓atH_map, ↓aw_cond, ↓aw_seq, ↓aw_block, ↓aw_skip, ↓aw_reg, ↓aw_draw, ↓Qseq_n, ↓Qblk_n, ↓ops_nil, ↓ops_cons, ↓eval_tmp, ↓eval_int, ↓eval_func, ↓put_some, ↓bK_b, ↓iK_i, ↓ev_move, ↓ev_load, ↓ev_not, ↓ev_fa, ↓ev_ia, ↓binE_i, ↓bi_add, ↓in_i64, ↓ldK_q, ↓faK_q, ↓iaK_l, ↓op_move, ↓op_assign, ↓op_bin, isD_d, ↓fnK_f, ↓callKQ_H, ↓allT_nil, ↓allT_cons, ↓td_d, ↓draw_H, ↓h_nil, ↓h_cons, ↓ldH_n, ↓q_call, ↓q_move, ↓q_load, ↓q_un, ↓q_fa, ↓q_ia, ↓il_move, ↓il_load, ↓il_un, ↓il_fa, ↓il_ia, ↓il_call, ↓cells_s, ↓cells_l, ↓hd_cons, ↓ty3, ↓sl22, ↓ty28, ↓ty35, ↓fd35_0, ↓fd35_1, ↓sl44, List.getD_cons_zero, List.getD_cons_succ, List.set_cons_zero, List.set_cons_succ, List.append_nil, List.length_cons, List.length_nil, List.all_cons, List.all_nil, Bool.true_and, Bool.and_self, Bool.true_or, Nat.reduceAdd, Nat.reduceSub, Nat.reduceMul, Nat.zero_add, Int.toNat_natCast, evK_go, reduceIte, decide_true, Bool.not_true, Nat.reduceEqDiff, Nat.reduceLT, and_self, true_and, Int.zero_add, List.drop_zero, List.drop_succ_cons, Int.natCast_nonneg]
      refine OrH.l ⟨DrawH.of follows_mixed (by kernel_rfl), ?_⟩
      (repeat refine OrH.l ?_)
      refine ⟨by omega, k + 1, by omega, by omega, ?_⟩
      refine Wkn.of [] [] ?_; simp (implicitDefEqProofs := false) (dsimp := false) only [List.set_cons_zero, List.set_cons_succ, Bool.and_self, Nat.reduceAdd, Nat.reduceSub, Nat.reduceMul, List.replicate, evK_go, reduceIte, Nat.reduceEqDiff, Nat.reduceLT, and_self, List.foldl_cons, List.foldl_nil, Int.cast_ofNat_Int, Int.natCast_add, slots, wkL_nil, wkL_cons, wkB_nil, wkR_nil, wkV_j, wkV_d, frz_d, reduceCtorEq]
    · simp (implicitDefEqProofs := false) (dsimp := false) only [↓aw_seq, ↓aw_block, ↓aw_exit, ↓aw_loop, ↓aw_reg, ↓Qseq_n, ↓Qseq_x, ↓Qblk_x, ↓ops_nil, ↓ops_cons, ↓eval_int, ↓put_some, ↓op_assign, List.set_cons_zero, List.set_cons_succ, Nat.reduceAdd, Nat.reduceSub, Nat.reduceMul, evK_go, reduceIte, Nat.reduceEqDiff, Nat.reduceLT]
      refine loopW (fun a : Nat => { tm := slots 139 [(0, .d (I .i64 n)), (1, .d (.l (l.map lnD))), (6, .d (.l (M.map liD))), (9, .d (I .i64 a))], bx := [], rw := [] })
        (fun a => a ≤ m) (fun a => m - a) 0 (by simp) ?_ ?_
      · refine Wkn.of [] [] ?_; simp (implicitDefEqProofs := false) (dsimp := false) only [List.set_cons_zero, List.set_cons_succ, Bool.and_self, Nat.reduceAdd, Nat.reduceSub, Nat.reduceMul, List.replicate, evK_go, reduceIte, Nat.reduceEqDiff, Nat.reduceLT, and_self, List.foldl_cons, List.foldl_nil, Int.cast_ofNat_Int, slots, wkL_nil, wkL_cons, wkB_nil, wkR_nil, wkV_j, wkV_d, frz_d, reduceCtorEq]
      · intro a ha
        simp (implicitDefEqProofs := false) (dsimp := false) only [slots, ↓aw_cond, ↓aw_seq, ↓aw_reg, ↓Qseq_n, ↓ops_nil, ↓ops_cons, ↓eval_tmp, ↓put_some, ↓bK_b, ↓binE_i, ↓bi_lss, ↓op_move, ↓op_bin, List.getD_cons_zero, List.getD_cons_succ, List.set_cons_zero, List.set_cons_succ, Nat.reduceAdd, Nat.reduceSub, Nat.reduceMul, List.replicate, evK_go, reduceIte, Nat.reduceEqDiff, Nat.reduceLT, List.foldl_cons, List.foldl_nil]
        refine cdK_dec (fun h1 => ?_) (fun h1 => ?_)
        · have ham : a < m := by omega
          have haM : a < M.length := by rw [cw.len]; exact ham
          have hsz := cw.sz a
          simp (implicitDefEqProofs := false) (dsimp := false) only [↓aw_seq, ↓aw_block, ↓aw_skip, ↓aw_loop, ↓aw_reg, ↓Qseq_n, ↓ops_nil, ↓ops_cons, ↓eval_int, ↓put_some, ↓op_assign, List.set_cons_zero, List.set_cons_succ, Nat.reduceAdd, Nat.reduceSub, Nat.reduceMul, evK_go, reduceIte, Nat.reduceEqDiff, Nat.reduceLT]
          refine loopW (fun i : Nat => { tm := slots 139 [(0, .d (I .i64 n)), (1, .d (.l (l.map lnD))), (6, .d (.l (M.map liD))), (9, .d (I .i64 a)), (10, .d (I .i64 i))], bx := [], rw := [] })
            (fun i => i ≤ (M.getD a default).length) (fun i => (M.getD a default).length - i) 0 (by simp) ?_ ?_
          · refine Wkn.of [] [] ?_; simp (implicitDefEqProofs := false) (dsimp := false) only [List.set_cons_zero, List.set_cons_succ, Bool.and_self, Nat.reduceAdd, Nat.reduceSub, Nat.reduceMul, List.replicate, evK_go, reduceIte, Nat.reduceEqDiff, Nat.reduceLT, and_self, List.foldl_cons, List.foldl_nil, Int.cast_ofNat_Int, slots, wkL_nil, wkL_cons, wkB_nil, wkR_nil, wkV_j, wkV_d, frz_d, reduceCtorEq]
          · intro i hi
            simp (implicitDefEqProofs := false) (dsimp := false) only [slots, haM, liD, ↓atK_H, ↓atH_map, ↓aw_cond, ↓aw_seq, ↓aw_reg, ↓Qseq_n, ↓ops_nil, ↓ops_cons, ↓eval_tmp, ↓put_some, ↓bK_b, ↓iK_i, ↓lenK_l, ↓binE_i, ↓bi_lss, ↓ldK_q, ↓iaK_l, ↓op_move, ↓op_load, ↓op_bin, ↓op_ia, ↓op_len, ↓cells_l, ↓hd_cons, ↓ty28, ↓sl28, ↓sl44, List.getD_cons_zero, List.getD_cons_succ, List.set_cons_zero, List.set_cons_succ, List.length_cons, List.length_nil, List.length_map, Bool.true_and, Nat.reduceAdd, Nat.reduceSub, Nat.reduceMul, Nat.zero_add, Int.toNat_natCast, List.replicate, evK_go, reduceIte, Nat.reduceEqDiff, Nat.reduceLT, true_and, Int.zero_add, List.foldl_cons, List.foldl_nil, Int.ofNat_lt, Int.natCast_nonneg]
            refine cdK_dec (fun h2 => ?_) (fun h2 => ?_)
            · have hb := getD_mem h2
              obtain ⟨b, hb1, hb2, _⟩ := cw.pt a _ hb
              have hin : inB (b : Int) 0 (n - 1) = true := inB_iff.2 ⟨by omega, by omega⟩
              have hbM : b < M.length := by rw [cw.len]; exact hb2
              have hszb := cw.sz b
              rw [hb1] at hb
              simp (implicitDefEqProofs := false) (dsimp := false) only [haM, h2, hb1, liD, in2_call, hin, ↓cdK_false, ↓atK_H, ↓atH_map, ↓aw_cond, ↓aw_seq, ↓aw_block, ↓aw_skip, ↓aw_loop, ↓aw_reg, ↓Qseq_n, ↓ops_nil, ↓ops_cons, ↓eval_tmp, ↓eval_int, ↓eval_func, ↓put_some, ↓bK_b, ↓iK_i, ↓binE_i, ↓bi_sub, ↓in_i64, ↓ldK_q, ↓iaK_l, ↓op_move, ↓op_assign, ↓op_load, ↓op_bin, ↓op_not, ↓op_ia, ↓op_call, isD_d, ↓fnK_f, ↓call_H, ↓callK_H, ↓allT_nil, ↓allT_cons, ↓td_d, ↓cells_c, ↓cells_l, ↓hd_cons, ↓ty3, ↓ty28, ↓sl28, ↓sl44, List.getD_cons_zero, List.getD_cons_succ, List.set_cons_zero, List.set_cons_succ, List.append_nil, List.length_cons, List.length_nil, List.all_cons, List.all_nil, Bool.true_and, Bool.and_self, Bool.true_or, Nat.reduceAdd, Nat.reduceSub, Nat.reduceMul, Nat.zero_add, Int.toNat_natCast, evK_go, reduceIte, decide_true, Bool.not_true, Nat.reduceEqDiff, Nat.reduceLT, and_self, true_and, Int.zero_add, Int.natCast_nonneg]
              refine ⟨by omega, OrH.l (OrH.l ?_)⟩
              refine loopW (fun j : Nat => { tm := slots 139 [(0, .d (I .i64 n)), (1, .d (.l (l.map lnD))), (6, .d (.l (M.map liD))), (9, .d (I .i64 a)), (10, .d (I .i64 i)), (11, .d (I .i64 b)), (12, .d (I .i64 j))], bx := [], rw := [] })
                (fun j => j ≤ (M.getD b default).length) (fun j => (M.getD b default).length - j) 0 (by simp) ?_ ?_
              · refine Wkn.of [] [] ?_; simp (implicitDefEqProofs := false) (dsimp := false) only [List.set_cons_zero, List.set_cons_succ, Bool.and_self, Nat.reduceAdd, Nat.reduceSub, Nat.reduceMul, List.replicate, evK_go, reduceIte, Nat.reduceEqDiff, Nat.reduceLT, and_self, List.foldl_cons, List.foldl_nil, Int.cast_ofNat_Int, slots, wkL_nil, wkL_cons, wkB_nil, wkR_nil, wkV_j, wkV_d, frz_d, reduceCtorEq]
              · intro j hj
                simp (implicitDefEqProofs := false) (dsimp := false) only [slots, hbM, liD, ↓atK_H, ↓atH_map, ↓aw_cond, ↓aw_seq, ↓aw_reg, ↓Qseq_n, ↓ops_nil, ↓ops_cons, ↓eval_tmp, ↓put_some, ↓bK_b, ↓iK_i, ↓lenK_l, ↓binE_i, ↓bi_lss, ↓ldK_q, ↓iaK_l, ↓op_move, ↓op_load, ↓op_bin, ↓op_ia, ↓op_len, ↓cells_l, ↓hd_cons, ↓ty28, ↓sl28, ↓sl44, List.getD_cons_zero, List.getD_cons_succ, List.set_cons_zero, List.set_cons_succ, List.length_cons, List.length_nil, List.length_map, Bool.true_and, Nat.reduceAdd, Nat.reduceSub, Nat.reduceMul, Nat.zero_add, Int.toNat_natCast, List.replicate, evK_go, reduceIte, Nat.reduceEqDiff, Nat.reduceLT, true_and, Int.zero_add, List.foldl_cons, List.foldl_nil, Int.ofNat_lt, Int.natCast_nonneg]
                refine cdK_dec (fun h3 => ?_) (fun h3 => ?_)
                · have hjm := cw.tr a b _ hb (getD_mem h3)
                  have hs1 : (M.getD a default).length < 2 ^ 62 := by omega
                  simp (implicitDefEqProofs := false) (dsimp := false) only [haM, hbM, h3, liD, hasR_callQ, hs1, hjm, ↓cdK_false, ↓atK_H, ↓atH_map, ↓aw_cond, ↓aw_seq, ↓aw_block, ↓aw_skip, ↓aw_reg, ↓aw_draw, ↓Qseq_n, ↓Qblk_n, ↓ops_nil, ↓ops_cons, ↓eval_tmp, ↓eval_int, ↓eval_func, ↓put_some, ↓bK_b, ↓iK_i, ↓ev_move, ↓ev_load, ↓ev_not, ↓ev_ia, ↓binE_i, ↓bi_add, ↓in_i64, ↓ldK_q, ↓iaK_l, ↓op_move, ↓op_assign, ↓op_bin, isD_d, ↓fnK_f, ↓callKQ_H, ↓allT_nil, ↓allT_cons, ↓td_d, ↓draw_H, ↓h_nil, ↓h_cons, ↓ldH_n, ↓q_call, ↓q_move, ↓q_load, ↓q_un, ↓q_ia, ↓il_move, ↓il_load, ↓il_un, ↓il_ia, ↓il_call, ↓cells_c, ↓cells_l, ↓hd_cons, ↓ty3, ↓ty28, ↓sl28, ↓sl44, List.getD_cons_zero, List.getD_cons_succ, List.set_cons_zero, List.set_cons_succ, List.append_nil, List.length_cons, List.length_nil, List.all_cons, List.all_nil, Bool.true_and, Bool.and_self, Bool.true_or, Nat.reduceAdd, Nat.reduceSub, Nat.reduceMul, Nat.zero_add, Int.toNat_natCast, evK_go, reduceIte, decide_true, Bool.not_true, Nat.reduceEqDiff, Nat.reduceLT, and_self, true_and, Int.zero_add, Int.natCast_nonneg]
                  refine OrH.l ⟨DrawH.of follows_mixed (by kernel_rfl), ?_⟩
                  (repeat refine OrH.l ?_)
                  refine ⟨by omega, j + 1, by omega, by omega, ?_⟩
                  refine Wkn.of [] [] ?_; simp (implicitDefEqProofs := false) (dsimp := false) only [List.set_cons_zero, List.set_cons_succ, Bool.and_self, Nat.reduceAdd, Nat.reduceSub, Nat.reduceMul, List.replicate, evK_go, reduceIte, Nat.reduceEqDiff, Nat.reduceLT, and_self, List.foldl_cons, List.foldl_nil, Int.cast_ofNat_Int, Int.natCast_add, slots, wkL_nil, wkL_cons, wkB_nil, wkR_nil, wkV_j, wkV_d, frz_d, reduceCtorEq]
                · simp (implicitDefEqProofs := false) (dsimp := false) only [↓gdK_t, ↓gval_mk, ↓gvL_zero, ↓gvL_succ, ↓aw_seq, ↓aw_exit, ↓aw_ret, ↓aw_reg, ↓Qseq_n, ↓Qseq_x, ↓Qblk_n, ↓Qblk_x, ↓Qret_r, ↓ops_nil, ↓ops_cons, ↓ops_guard, ↓eval_tmp, ↓eval_int, ↓eval_bool, ↓put_some, ↓lenK_l, ↓binE_i, ↓bi_add, ↓bi_lss, ↓in_i64, ↓op_move, ↓op_assign, ↓op_bin, ↓op_len, ↓td_d, ↓ret_1, ↓st_tm, ↓sl22, List.getD_cons_zero, List.getD_cons_succ, List.set_cons_zero, List.set_cons_succ, List.length_map, Nat.reduceAdd, Nat.reduceSub, Nat.reduceMul, evK_go, reduceIte, Nat.reduceEqDiff, Nat.reduceLT]
                  refine cdK_dec (fun h4 => ?_) (fun h4 => ?_)
                  · simp (implicitDefEqProofs := false) (dsimp := false) only [h4, ↓cdK_true, ↓cdK_not, ↓gdK_t, ↓gval_mk, ↓gvL_zero, ↓gvL_succ, ↓aw_cond, ↓Qseq_n, ↓ops_nil, ↓ops_cons, ↓ops_guard, ↓eval_tmp, ↓put_some, ↓bK_b, ↓binE_i, ↓bi_neq, ↓op_move, ↓op_pick, ↓op_bin, ↓st_tm, List.getD_cons_zero, List.getD_cons_succ, List.set_cons_zero, List.set_cons_succ, Nat.reduceAdd, Nat.reduceSub, Nat.reduceMul, evK_go, reduceIte, decide_true, Nat.reduceEqDiff, Nat.reduceLT, Int.natCast_inj]
                    refine cdK_dec (fun h5 => ?_) (fun h5 => ?_)
                    · subst h5
                      simp (implicitDefEqProofs := false) (dsimp := false) only [↓aw_skip, ↓aw_reg, ↓Qseq_n, ↓Qblk_n, ↓ops_nil, ↓ops_cons, ↓eval_tmp, ↓eval_int, ↓put_some, ↓binE_i, ↓bi_add, ↓in_i64, ↓op_move, ↓op_assign, ↓op_bin, List.getD_cons_zero, List.getD_cons_succ, List.set_cons_zero, List.set_cons_succ, Nat.reduceAdd, Nat.reduceSub, Nat.reduceMul, evK_go, reduceIte, decide_true, Bool.not_true, Nat.reduceEqDiff, Nat.reduceLT]
                      refine ⟨by omega, i + 1, by omega, by omega, ?_⟩
                      refine Wkn.of [] [] ?_; simp (implicitDefEqProofs := false) (dsimp := false) only [List.set_cons_zero, List.set_cons_succ, Bool.and_self, Nat.reduceAdd, Nat.reduceSub, Nat.reduceMul, List.replicate, evK_go, reduceIte, Nat.reduceEqDiff, Nat.reduceLT, and_self, List.foldl_cons, List.foldl_nil, Int.cast_ofNat_Int, Int.natCast_add, slots, wkL_nil, wkL_cons, wkB_nil, wkR_nil, wkV_j, wkV_d, frz_d, reduceCtorEq]
                    · simp (implicitDefEqProofs := false) (dsimp := false) only [h5, ↓optK_some, ↓rwK_mk_, ↓aw_seq, ↓aw_reg, ↓Qseq_n, ↓ops_nil, ↓ops_cons, ↓eval_tmp, ↓eval_nil, ↓eval_func, ↓put_some, ↓dK_d, ↓op_move, ↓op_assign, ↓op_build, ↓op_append, ↓op_call, isD_d, isD_o, ↓fnK_f, ↓call_H, ↓callK_H, ↓allT_nil, ↓allT_cons, ↓allD_nil, ↓allD_cons, ↓td_d, ↓td_o, ↓addRow_mk, ↓app_mk, ↓st_rw, ↓row_sz, ↓row_xs, kill_d, kill_j, kill_nl, kill_o, ↓cells_c, ↓cells_s, ↓one_i, ↓ap_, ↓ap_nl, ↓ap_o, ↓src_l, ↓bs_, ↓op_bs, ↓bsL_f, ↓stored_mk, ↓sl_nil, ↓sl_cons, ↓sT_move, ↓sT_assign, ↓sT_extract, ↓sT_build, ↓sT_bs, ↓sT_call, ↓vsz_agg, ↓inO_1, ↓fm_nil, ↓fm_cons, ↓sl22, ↓ty35, ↓zb35, ↓bd35, List.getD_cons_zero, List.getD_cons_succ, List.set_cons_zero, List.set_cons_succ, List.cons_append, List.nil_append, List.append_nil, List.map_cons, List.map_nil, List.length_cons, List.length_nil, List.length_map, List.all_cons, List.all_nil, Bool.and_true, Bool.true_and, Bool.and_self, Bool.and_false, Bool.or_false, Nat.reduceAdd, Nat.reduceSub, Nat.reduceMul, Nat.zero_add, evK_go, reduceIte, decide_false, Bool.not_false, Nat.reduceEqDiff, Nat.reduceLT, and_self, true_and, and_true, Int.zero_add, List.drop_zero]
                      have hm62 : (l ++ [((a : Int), (b : Int))]).length < 2 ^ 62 := by simp; omega
                      obtain ⟨hc2, hM2⟩ := more a b hb h5 (by omega)
                      refine ⟨rfl, fun y hy => ?_, ⟨by omega, by omega⟩, ⟨rfl, by decide⟩, rfl, ⟨fun _ => trivial, by omega, by omega⟩, OrH.r (Loud.frz { tm := slots 139 [(0, .d (I .i64 n)), (1, .d (.l (l.map lnD))), (6, .d (.l (M.map liD))), (9, .d (I .i64 a)), (10, .d (I .i64 i)), (11, .d (I .i64 b)), (121, .d (I .i64 n)), (127, .d (.l ((l ++ [((a : Int), (b : Int))]).map lnD)))], bx := [], rw := [] } (Wkn.of [] [] ?_) ?_)⟩
                      · obtain ⟨q, _, rfl⟩ := List.mem_map.1 hy
                        exact ⟨rfl, rfl⟩
                      · have e1 : List.take (l.length + 1) (l.map lnD ++ [D.s [I .i64 a, I .i64 b]]) = (l ++ [((a : Int), (b : Int))]).map lnD := by
                          rw [List.map_append]
                          exact List.take_of_length_le (by simp)
                        simp (implicitDefEqProofs := false) (dsimp := false) only [e1, ↓optK_some, ↓row_xs, List.getD_cons_zero, List.set_cons_zero, List.set_cons_succ, Bool.and_self, Nat.reduceAdd, Nat.reduceSub, Nat.reduceMul, List.replicate, evK_go, reduceIte, Nat.reduceEqDiff, Nat.reduceLT, and_self, not_false_eq_true, List.drop_zero, List.foldl_cons, List.foldl_nil, slots, wkL_nil, wkL_cons, wkB_nil, wkR_nil, wkV_j, wkV_d, frz_d, frz_o, dl_eq, reduceCtorEq, List.not_mem_nil]
                      · have hM62 : M.length < 2 ^ 62 ∧ ∀ x ∈ M, x.length < 2 ^ 62 := by
                          refine ⟨by rw [cw.len]; omega, fun x hx => ?_⟩
                          obtain ⟨q, hq, rfl⟩ := List.mem_iff_getElem.1 hx
                          have := cw.sz q
                          rw [List.getD_eq_getElem?_getD, List.getElem?_eq_getElem hq, Option.getD_some] at this
                          omega
                        simp (implicitDefEqProofs := false) (dsimp := false) only [slots, call_call, hm62, hc2, hM2, erows_call, eval_nilI, ↓er_neq, ↓cdK_false, ↓gdK_f, ↓gval_mk, ↓gvL_zero, ↓gvL_succ, ↓nthK_H, ↓nthH_zero, ↓nthH_succ, ↓aw_cond, ↓aw_seq, ↓aw_skip, ↓aw_reg, ↓Qseq_n, ↓Qblk_n, ↓ops_nil, ↓ops_cons, ↓ops_guard, ↓eval_tmp, ↓eval_int, ↓eval_func, ↓put_some, ↓bK_b, ↓tK_t, ↓binE_i, ↓bi_add, ↓in_i64, ↓op_move, ↓op_assign, ↓op_pick, ↓op_bin, ↓op_not, ↓op_extract, ↓op_call, isD_d, ↓fnK_f, ↓call_H, ↓callK_H, ↓allT_nil, ↓allT_cons, ↓td_d, ↓st_tm, List.getD_cons_zero, List.getD_cons_succ, List.set_cons_zero, List.set_cons_succ, List.append_nil, List.all_cons, List.all_nil, Bool.true_and, Bool.and_self, Bool.true_or, Nat.reduceAdd, Nat.reduceSub, Nat.reduceMul, List.replicate, evK_go, reduceIte, decide_true, Bool.not_true, Nat.reduceEqDiff, Nat.reduceLT, and_self, true_and, List.foldl_cons, List.foldl_nil]
                        (repeat refine OrH.l ?_)
                        refine ⟨hM62, ?_⟩
                        (repeat refine OrH.l ?_)
                        refine ⟨by omega, i + 1, by omega, by omega, ?_⟩
                        refine Wkn.of [] [] ?_; simp (implicitDefEqProofs := false) (dsimp := false) only [Bool.and_self, Nat.reduceAdd, Nat.reduceSub, Nat.reduceMul, evK_go, reduceIte, Nat.reduceEqDiff, Nat.reduceLT, and_self, Int.cast_ofNat_Int, Int.natCast_add, slots, wkL_nil, wkL_cons, wkB_nil, wkR_nil, wkV_j, wkV_d, frz_d, reduceCtorEq]
                  · simp (implicitDefEqProofs := false) (dsimp := false) only [h4, ↓cdK_false, ↓gdK_t, ↓gval_mk, ↓gvL_zero, ↓gvL_succ, ↓aw_cond, ↓aw_skip, ↓aw_reg, ↓Qseq_n, ↓Qblk_n, ↓ops_nil, ↓ops_cons, ↓ops_guard, ↓eval_tmp, ↓eval_int, ↓eval_bool, ↓put_some, ↓bK_b, ↓binE_i, ↓bi_add, ↓in_i64, ↓op_move, ↓op_assign, ↓op_pick, ↓op_bin, ↓st_tm, List.getD_cons_zero, List.getD_cons_succ, List.set_cons_zero, List.set_cons_succ, Nat.reduceAdd, Nat.reduceSub, Nat.reduceMul, evK_go, reduceIte, decide_false, Nat.reduceEqDiff, Nat.reduceLT]
                    refine ⟨by omega, i + 1, by omega, by omega, ?_⟩
                    refine Wkn.of [] [] ?_; simp (implicitDefEqProofs := false) (dsimp := false) only [List.set_cons_zero, List.set_cons_succ, Bool.and_self, Nat.reduceAdd, Nat.reduceSub, Nat.reduceMul, List.replicate, evK_go, reduceIte, Nat.reduceEqDiff, Nat.reduceLT, and_self, List.foldl_cons, List.foldl_nil, Int.cast_ofNat_Int, Int.natCast_add, slots, wkL_nil, wkL_cons, wkB_nil, wkR_nil, wkV_j, wkV_d, frz_d, reduceCtorEq]
            · simp (implicitDefEqProofs := false) (dsimp := false) only [↓aw_seq, ↓aw_exit, ↓aw_ret, ↓aw_reg, ↓Qseq_n, ↓Qseq_x, ↓Qblk_n, ↓Qblk_x, ↓Qret_r, ↓ops_nil, ↓ops_cons, ↓eval_tmp, ↓eval_int, ↓eval_bool, ↓put_some, ↓binE_i, ↓bi_add, ↓in_i64, ↓op_move, ↓op_assign, ↓op_bin, ↓td_d, ↓ret_1, List.getD_cons_zero, List.getD_cons_succ, List.set_cons_zero, List.set_cons_succ, Nat.reduceAdd, Nat.reduceSub, Nat.reduceMul, evK_go, reduceIte, Nat.reduceEqDiff, Nat.reduceLT]
              refine ⟨by omega, a + 1, by omega, by omega, ?_⟩
              refine Wkn.of [] [] ?_; simp (implicitDefEqProofs := false) (dsimp := false) only [List.set_cons_zero, List.set_cons_succ, Bool.and_self, Nat.reduceAdd, Nat.reduceSub, Nat.reduceMul, List.replicate, evK_go, reduceIte, Nat.reduceEqDiff, Nat.reduceLT, and_self, List.foldl_cons, List.foldl_nil, Int.cast_ofNat_Int, Int.natCast_add, slots, wkL_nil, wkL_cons, wkB_nil, wkR_nil, wkV_j, wkV_d, frz_d, reduceCtorEq]
        · simp (implicitDefEqProofs := false) (dsimp := false) only [↓aw_seq, ↓aw_exit, ↓aw_ret, ↓aw_reg, ↓Qseq_n, ↓Qseq_x, ↓Qblk_x, ↓Qret_r, ↓ops_nil, ↓ops_cons, ↓eval_tmp, ↓eval_bool, ↓put_some, ↓op_assign, ↓td_d, ↓ret_1, List.getD_cons_zero, List.getD_cons_succ, List.set_cons_zero, List.set_cons_succ, Nat.reduceAdd, Nat.reduceSub, Nat.reduceMul, evK_go, reduceIte, Nat.reduceEqDiff, Nat.reduceLT]
end Go.Proofs

namespace Go.Proofs
open Go.Aw
set_option linter.unusedSimpArgs false
set_option maxRecDepth 10000
theorem close_mem {n : Int} {l : List (Int × Int)} (hc : chk n l = 0) (i j : Nat) : (j : Int) ∈ (closeAll n l).getD i default ↔ Path1 (natL l) i j := by
  have ok := chk_ok hc
  have e : closeAll n l = (war n.toNat (natL l)).map ptsI := if_pos hc
  rw [e, mapP_get, ptsI_mem, war_bit ok.good]
  exact ⟨fun h => h.2, fun h => ⟨by have := (h.lt ok.good).2; have := ok.hi; omega, h⟩⟩
theorem close_congr {n : Int} {l l' : List (Int × Int)} (hc : chk n l = 0) (hc' : chk n l' = 0) (h : ∀ i j, Path1 (natL l) i j ↔ Path1 (natL l') i j) : closeAll n l = closeAll n l' := by
  have ok := chk_ok hc
  have ok' := chk_ok hc'
  rw [show closeAll n l = (war n.toNat (natL l)).map ptsI from if_pos hc, show closeAll n l' = (war n.toNat (natL l')).map ptsI from if_pos hc']
  congr 1
  refine List.ext_getElem (by rw [war_len ok.good, war_len ok'.good]) fun i h1 h2 => ?_
  apply bits_eq
  intro j
  have g1 := war_bit ok.good i j
  have g2 := war_bit ok'.good i j
  rw [List.getD_eq_getElem?_getD, List.getElem?_eq_getElem h1, Option.getD_some] at g1
  rw [List.getD_eq_getElem?_getD, List.getElem?_eq_getElem h2, Option.getD_some] at g2
  rw [Bool.eq_iff_iff, g1, g2, h]
def intP (p : Nat × Nat) : Int × Int := ((p.1 : Int), (p.2 : Int))
def intL (l : List (Nat × Nat)) : List (Int × Int) := l.map intP
theorem lnN_int (l : List (Nat × Nat)) : l.map lnN = (intL l).map lnD := by unfold intL; rw [List.map_map]; rfl
theorem natL_int (l : List (Nat × Nat)) : natL (intL l) = l := by
  unfold natL intL
  rw [List.map_map]
  exact List.map_id _
theorem chk_sub {n : Int} {l l' : List (Int × Int)} (hc : chk n l = 0) (hl : l'.length ≤ 24) (h : ∀ p ∈ l', p ∈ l) : chk n l' = 0 := by
  rw [chk_iff] at hc ⊢
  exact ⟨hc.1, hl, fun p hp => hc.2.2 p (h p hp)⟩
theorem intL_sub {l : List (Int × Int)} {F : List (Nat × Nat)} (hl : ∀ p ∈ l, 0 ≤ p.1 ∧ 0 ≤ p.2) (h : ∀ p ∈ F, p ∈ natL l) : ∀ p ∈ intL F, p ∈ l := by
  intro p hp
  obtain ⟨q, hq, rfl⟩ := List.mem_map.1 hp
  obtain ⟨r, hr, rfl⟩ := List.mem_map.1 (h q hq)
  have := hl r hr
  have e : intP (natP r) = r := by
    show ((r.1.toNat : Int), (r.2.toNat : Int)) = r
    rw [Int.toNat_of_nonneg this.1, Int.toNat_of_nonneg this.2]
  rw [e]; exact hr
theorem closeM {n : Int} {l : List (Int × Int)} (hc : chk n l = 0) : (closeAll n l).length < 2 ^ 62 ∧ ∀ x ∈ closeAll n l, x.length < 2 ^ 62 := by
  have cw := closeW hc
  have h8 := cw.hi
  refine ⟨by rw [cw.len]; omega, fun x hx => ?_⟩
  obtain ⟨q, hq, rfl⟩ := List.mem_iff_getElem.1 hx
  have := cw.sz q
  rw [List.getD_eq_getElem?_getD, List.getElem?_eq_getElem hq, Option.getD_some] at this
  omega
structure FW (n : Int) (l F : List (Int × Int)) : Prop where
  chk0 : chk n l = 0
  chkF : chk n F = 0
  same : closeAll n F = closeAll n l
  len : F.length ≤ l.length
  sub : ∀ p ∈ F, p ∈ l
  need : ∀ k : Nat, k < F.length → chk n (butL F (k : Int)) = 0 ∧ closeAll n (butL F (k : Int)) ≠ closeAll n l
theorem fewW {n : Int} {l : List (Int × Int)} (h : topoE n l = 0) : FW n l (intL (fewR n l)) := by
  obtain ⟨hc, o, ho⟩ := topoE_zero h
  have ok := chk_ok hc
  have h8 := ok.hi
  have e : fewR n l = few n.toNat (natL l) := if_pos h
  rw [e]
  have ht := topo_some (by omega) ok.good ho
  have hlen : (intL (few n.toNat (natL l))).length ≤ l.length := by
    unfold intL; rw [List.length_map]
    have := few_len (n := n.toNat) (by omega) ok.good
    rw [natL_len] at this; exact this
  have hsub := intL_sub ok.rng (F := few n.toNat (natL l)) fun p hp => few_sub (by omega) ok.good hp
  have h24 := ok.len
  have hcF := chk_sub hc (by omega) hsub
  refine ⟨hc, hcF, close_congr hcF hc fun i j => by rw [natL_int]; exact few_path (by omega) ok.good ht, hlen, hsub, fun k hk => ?_⟩
  have hk' : k < (few n.toNat (natL l)).length := by simpa [intL] using hk
  have hcB : chk n (butL (intL (few n.toNat (natL l))) (k : Int)) = 0 := chk_sub hcF (by
    have := butK_len (intL (few n.toNat (natL l))) (k : Int) (intL (few n.toNat (natL l))).length
    unfold butL; omega) fun p hp => but_mem hp
  refine ⟨hcB, fun e => ?_⟩
  obtain ⟨i, j, h1, h2⟩ := few_need (by omega) ok.good hk'
  have h3 := (close_mem hc i j).2 h1
  rw [← e] at h3
  have h4 := (close_mem hcB i j).1 h3
  have e2 : natL (butL (intL (few n.toNat (natL l))) (k : Int)) = (few n.toNat (natL l)).eraseIdx k := by
    show (butL (intL (few n.toNat (natL l))) (k : Int)).map natP = _
    rw [← but_map]
    have e3 : (intL (few n.toNat (natL l))).map natP = few n.toNat (natL l) := natL_int _
    rw [e3, but_erase _ _ hk']
  rw [e2] at h4
  exact h2 h4
theorem lCloseFew_spec (n : Int) (l : List (Int × Int)) (k : Int) (_hn : -9223372036854775808 ≤ n ∧ n ≤ 9223372036854775807) (hpre : l.length < 2 ^ 43) (_hk : -9223372036854775808 ≤ k ∧ k ≤ 9223372036854775807) : FnD Try.prog 8 [I .i64 n, .l (l.map lnD), I .i64 k] (Bo true) := by
  have hl62 : l.length < 2 ^ 62 := by omega
  refine FnD.go Try.func8 rfl rfl Try.results8 Try.ntmps8 ?_
  simp (implicitDefEqProofs := false) (dsimp := false) only [↓aw_seq, ↓aw_reg, ↓Qseq_n, ↓ops_nil, ↓ops_cons, ↓eval_bool, ↓eval_func, ↓put_some, ↓op_assign, ↓op_call, isD_d, ↓fnK_f, ↓call_H, ↓callK_H, ↓allT_nil, ↓td_d, List.set_cons_zero, List.set_cons_succ, List.cons_append, List.nil_append, List.append_nil, List.map_cons, List.map_nil, List.length_cons, List.length_nil, List.all_nil, Bool.and_self, Nat.reduceAdd, Nat.reduceSub, Nat.reduceMul, Nat.zero_add, List.replicate, evK_go, reduceIte, Nat.reduceEqDiff, Nat.reduceLT, and_self, Int.zero_add]
  simp (implicitDefEqProofs := false) (dsimp := false) only [cfact_call, few_call, hl62, eval_nilI, ↓er_neq, ↓cdK_false, ↓cdK_not, ↓nthK_H, ↓nthH_zero, ↓nthH_succ, ↓aw_cond, ↓aw_seq, ↓aw_skip, ↓aw_reg, ↓Qseq_n, ↓ops_nil, ↓ops_cons, ↓eval_tmp, ↓eval_func, ↓put_some, ↓bK_b, ↓tK_t, ↓op_move, ↓op_assign, ↓op_bin, ↓op_not, ↓op_extract, ↓op_call, isD_d, ↓fnK_f, ↓call_H, ↓callK_H, ↓allT_nil, ↓allT_cons, ↓td_d, List.getD_cons_zero, List.getD_cons_succ, List.set_cons_zero, List.set_cons_succ, List.append_nil, List.all_cons, List.all_nil, Bool.true_and, Bool.and_self, Bool.true_or, Nat.reduceAdd, Nat.reduceSub, Nat.reduceMul, evK_go, reduceIte, Bool.not_true, Nat.reduceEqDiff, Nat.reduceLT, and_self, true_and]
  (repeat refine OrH.l ?_)
  refine cdK_dec (fun hc => ?_) (fun hc => ?_)
  rotate_left
  · have e1 : fewR n l = [] := if_neg hc
    simp (implicitDefEqProofs := false) (dsimp := false) only [e1, ↓aw_seq, ↓aw_ret, ↓aw_reg, ↓Qseq_n, ↓Qseq_r, ↓Qret_r, ↓ops_nil, ↓ops_cons, ↓eval_tmp, ↓eval_int, ↓put_some, ↓lenK_l, ↓binE_i, ↓bi_eql, ↓op_move, ↓op_assign, ↓op_bin, ↓op_len, ↓td_d, ↓ret_1, ↓sl22, List.getD_cons_zero, List.getD_cons_succ, List.set_cons_zero, List.set_cons_succ, List.map_nil, List.length_nil, Nat.reduceAdd, Nat.reduceSub, Nat.reduceMul, evK_go, reduceIte, decide_true, Nat.reduceEqDiff, Nat.reduceLT, Int.cast_ofNat_Int]
  have fw := fewW hc
  have hM62 := closeM fw.chk0
  rw [lnN_int]
  generalize intL (fewR n l) = F at fw ⊢
  have hF62 : F.length < 2 ^ 62 := by have := fw.len; omega
  have hFl : ¬ F.length > l.length := by have := fw.len; omega
  have h24 := fw.len
  simp (implicitDefEqProofs := false) (dsimp := false) only [call_call, hl62, hF62, fw.chk0, fw.chkF, fw.same, erows_call, hM62, hFl, eval_nilI, ↓er_neq, ↓cdK_false, ↓gdK_f, ↓gval_mk, ↓gvL_zero, ↓gvL_succ, ↓nthK_H, ↓nthH_zero, ↓nthH_succ, ↓aw_cond, ↓aw_seq, ↓aw_block, ↓aw_skip, ↓aw_loop, ↓aw_reg, ↓Qseq_n, ↓ops_nil, ↓ops_cons, ↓ops_guard, ↓eval_tmp, ↓eval_int, ↓eval_func, ↓put_some, ↓bK_b, ↓lenK_l, ↓tK_t, ↓binE_i, ↓bi_gtr, ↓op_move, ↓op_assign, ↓op_pick, ↓op_bin, ↓op_not, ↓op_extract, ↓op_len, ↓op_call, isD_d, ↓fnK_f, ↓call_H, ↓callK_H, ↓allT_nil, ↓allT_cons, ↓td_d, ↓st_tm, ↓sl22, List.getD_cons_zero, List.getD_cons_succ, List.set_cons_zero, List.set_cons_succ, List.append_nil, List.length_map, List.all_cons, List.all_nil, Bool.true_and, Bool.and_self, Bool.true_or, Nat.reduceAdd, Nat.reduceSub, Nat.reduceMul, evK_go, reduceIte, decide_true, decide_false, Bool.not_true, Nat.reduceEqDiff, Nat.reduceLT, and_self, true_and, Int.ofNat_lt]
  (repeat refine OrH.l ?_)
  refine ⟨hM62.2, ?_⟩
  refine loopW (fun i : Nat => { tm := slots 102 [(0, .d (I .i64 n)), (1, .d (.l (l.map lnD))), (2, .d (I .i64 k)), (8, .d (.l (F.map lnD))), (10, .d (.l ((closeAll n l).map liD))), (14, .d (I .i64 i))], bx := [], rw := [] })
    (fun i => i ≤ F.length) (fun i => F.length - i) 0 (by simp) ?_ ?_
  · refine Wkn.of [] [] ?_; simp (implicitDefEqProofs := false) (dsimp := false) only [List.set_cons_zero, List.set_cons_succ, Bool.and_self, Nat.reduceAdd, Nat.reduceSub, Nat.reduceMul, List.replicate, evK_go, reduceIte, Nat.reduceEqDiff, Nat.reduceLT, and_self, List.foldl_cons, List.foldl_nil, Int.cast_ofNat_Int, slots, wkL_nil, wkL_cons, wkB_nil, wkR_nil, wkV_j, wkV_d, frz_d, reduceCtorEq]
  · intro i hi
    simp (implicitDefEqProofs := false) (dsimp := false) only [slots, ↓aw_cond, ↓aw_seq, ↓aw_reg, ↓Qseq_n, ↓ops_nil, ↓ops_cons, ↓eval_tmp, ↓put_some, ↓bK_b, ↓lenK_l, ↓binE_i, ↓bi_lss, ↓op_move, ↓op_bin, ↓op_len, ↓sl22, List.getD_cons_zero, List.getD_cons_succ, List.set_cons_zero, List.set_cons_succ, List.length_map, Nat.reduceAdd, Nat.reduceSub, Nat.reduceMul, List.replicate, evK_go, reduceIte, Nat.reduceEqDiff, Nat.reduceLT, List.foldl_cons, List.foldl_nil, Int.ofNat_lt]
    refine cdK_dec (fun h => ?_) (fun h => ?_)
    · have hm := fw.sub _ (getD_mem h)
      simp (implicitDefEqProofs := false) (dsimp := false) only [h, lnD, goes_callQ, hl62, ↓cdK_not, ↓atK_H, ↓atH_map, ↓aw_cond, ↓aw_seq, ↓aw_block, ↓aw_skip, ↓aw_draw, ↓Qseq_n, ↓eval_tmp, ↓eval_func, ↓put_some, ↓bK_b, ↓iK_i, ↓ev_move, ↓ev_load, ↓ev_not, ↓ev_fa, ↓ev_ia, ↓ldK_q, ↓faK_q, ↓iaK_l, isD_d, ↓fnK_f, ↓callKQ_H, ↓allT_nil, ↓allT_cons, ↓td_d, ↓draw_H, ↓h_nil, ↓h_cons, ↓ldH_n, ↓q_call, ↓q_move, ↓q_load, ↓q_un, ↓q_fa, ↓q_ia, ↓il_move, ↓il_load, ↓il_un, ↓il_fa, ↓il_ia, ↓il_call, ↓cells_s, ↓hd_cons, ↓ty3, ↓sl22, ↓ty35, ↓fd35_0, ↓fd35_1, List.getD_cons_zero, List.getD_cons_succ, List.set_cons_zero, List.set_cons_succ, List.append_nil, List.length_cons, List.length_nil, List.all_cons, List.all_nil, Bool.true_and, Bool.and_self, Bool.true_or, Nat.reduceAdd, Nat.reduceSub, Nat.reduceMul, Nat.zero_add, Int.toNat_natCast, evK_go, reduceIte, decide_true, Nat.reduceEqDiff, Nat.reduceLT, and_self, true_and, Int.zero_add, List.drop_zero, List.drop_succ_cons, Int.natCast_nonneg]
      have e : ((F.getD i default).1, (F.getD i default).2) = F.getD i default := rfl
      refine OrH.l ⟨DrawH.of follows_mixed (by kernel_rfl), ?_⟩
      simp (implicitDefEqProofs := false) (dsimp := false) only [e, hm, ↓cdK_true, ↓aw_skip, ↓aw_reg, ↓Qseq_n, ↓Qblk_n, ↓ops_nil, ↓ops_cons, ↓eval_tmp, ↓eval_int, ↓put_some, ↓binE_i, ↓bi_add, ↓in_i64, ↓op_move, ↓op_assign, ↓op_bin, List.getD_cons_zero, List.getD_cons_succ, List.set_cons_zero, List.set_cons_succ, Nat.reduceAdd, Nat.reduceSub, Nat.reduceMul, evK_go, reduceIte, decide_true, Bool.not_true, Nat.reduceEqDiff, Nat.reduceLT]
      (repeat refine OrH.l ?_)
      refine ⟨by omega, i + 1, by omega, by omega, ?_⟩
      refine Wkn.of [] [] ?_; simp (implicitDefEqProofs := false) (dsimp := false) only [List.set_cons_zero, List.set_cons_succ, Bool.and_self, Nat.reduceAdd, Nat.reduceSub, Nat.reduceMul, List.replicate, evK_go, reduceIte, Nat.reduceEqDiff, Nat.reduceLT, and_self, List.foldl_cons, List.foldl_nil, Int.cast_ofNat_Int, Int.natCast_add, slots, wkL_nil, wkL_cons, wkB_nil, wkR_nil, wkV_j, wkV_d, frz_d, reduceCtorEq]
    · simp (implicitDefEqProofs := false) (dsimp := false) only [in2_call, ↓cdK_not, ↓aw_cond, ↓aw_seq, ↓aw_exit, ↓aw_reg, ↓Qseq_n, ↓Qseq_x, ↓Qblk_x, ↓ops_nil, ↓ops_cons, ↓eval_tmp, ↓eval_int, ↓eval_func, ↓put_some, ↓bK_b, ↓lenK_l, ↓binE_i, ↓bi_sub, ↓in_i64, ↓op_move, ↓op_bin, ↓op_not, ↓op_len, ↓op_call, isD_d, ↓fnK_f, ↓call_H, ↓callK_H, ↓allT_nil, ↓allT_cons, ↓td_d, ↓sl22, List.getD_cons_zero, List.getD_cons_succ, List.set_cons_zero, List.set_cons_succ, List.append_nil, List.length_map, List.all_cons, List.all_nil, Bool.true_and, Bool.and_self, Bool.true_or, Nat.reduceAdd, Nat.reduceSub, Nat.reduceMul, evK_go, reduceIte, Nat.reduceEqDiff, Nat.reduceLT, and_self, true_and]
      refine ⟨by omega, ?_⟩
      (repeat refine OrH.l ?_)
      refine cdK_split (fun hk => ?_) (fun hk => ?_)
      rotate_left
      · simp (implicitDefEqProofs := false) (dsimp := false) only [↓aw_seq, ↓aw_ret, ↓aw_reg, ↓Qseq_n, ↓Qseq_r, ↓Qret_r, ↓ops_nil, ↓ops_cons, ↓eval_tmp, ↓eval_bool, ↓put_some, ↓op_assign, ↓td_d, ↓ret_1, List.getD_cons_zero, List.getD_cons_succ, List.set_cons_zero, List.set_cons_succ, Nat.reduceAdd, Nat.reduceSub, Nat.reduceMul, evK_go, reduceIte, Nat.reduceEqDiff, Nat.reduceLT]
      rw [inB_iff] at hk
      obtain ⟨x, rfl⟩ := Int.eq_ofNat_of_zero_le hk.1
      obtain ⟨hB1, hB2⟩ := fw.need x (by omega)
      have hB62 : (butL F (x : Int)).length < 2 ^ 62 := by
        have := butK_len F (x : Int) F.length
        unfold butL; omega
      have hB3 : ¬ closeAll n l = closeAll n (butL F (x : Int)) := fun e => hB2 e.symm
      have hF43 : F.length < 2 ^ 43 := by omega
      simp (implicitDefEqProofs := false) (dsimp := false) only [but_callD, hF43, call_call, hB62, hB1, hB3, erows_call, hM62, eval_nilI, ↓er_eql, ↓cdK_true, ↓gdK_t, ↓gval_mk, ↓gvL_zero, ↓gvL_succ, ↓nthK_H, ↓nthH_zero, ↓nthH_succ, ↓aw_seq, ↓aw_ret, ↓aw_skip, ↓aw_reg, ↓Qseq_n, ↓Qret_r, ↓ops_nil, ↓ops_cons, ↓ops_guard, ↓eval_tmp, ↓eval_func, ↓put_some, ↓bK_b, ↓tK_t, ↓op_move, ↓op_assign, ↓op_pick, ↓op_bin, ↓op_not, ↓op_extract, ↓op_call, isD_d, ↓fnK_f, ↓call_H, ↓callK_H, ↓allT_nil, ↓allT_cons, ↓td_d, ↓ret_1, ↓st_tm, List.getD_cons_zero, List.getD_cons_succ, List.set_cons_zero, List.set_cons_succ, List.append_nil, List.all_cons, List.all_nil, Bool.and_true, Bool.true_and, Bool.and_self, Bool.true_or, Nat.reduceAdd, Nat.reduceSub, Nat.reduceMul, evK_go, reduceIte, decide_true, decide_false, Bool.not_false, Nat.reduceEqDiff, Nat.reduceLT, and_self, true_and, and_true]
      (repeat refine OrH.l ?_)
      exact hM62.2
end Go.Proofs

namespace Go.Proofs
open Go.Aw
set_option linter.unusedSimpArgs false
set_option maxRecDepth 10000
def mErr (left right : Int) (p : Int × Int) : Int := if (inB p.1 0 (left - 1) && inB p.2 0 (right - 1)) = true then 0 else 1
def mchk (left right : Int) (l : List (Int × Int)) : Int := if (inB left 0 6 && inB right 0 6) = false then 1 else if 24 < l.length then 4 else firstErr (mErr left right) l
theorem mcheck_spec (left right : Int) (l : List (Int × Int)) (hpre : l.length < 2 ^ 62) : FnD Try.prog 67 [I .i64 left, I .i64 right, .l (l.map lnD)] (erD (mchk left right l)) := by
  refine FnD.go Try.func67 rfl rfl Try.results67 Try.ntmps67 ?_
  simp (implicitDefEqProofs := false) (dsimp := false) only [↓aw_seq, ↓aw_reg, ↓Qseq_n, ↓ops_nil, ↓ops_cons, ↓eval_tmp, ↓eval_int, ↓eval_func, ↓put_some, ↓op_move, ↓op_assign, ↓op_call, isD_d, ↓fnK_f, ↓call_H, ↓callK_H, ↓allT_nil, ↓allT_cons, ↓td_d, List.getD_cons_zero, List.getD_cons_succ, List.set_cons_zero, List.set_cons_succ, List.cons_append, List.nil_append, List.append_nil, List.map_cons, List.map_nil, List.length_cons, List.length_nil, List.all_cons, List.all_nil, Bool.and_self, Nat.reduceAdd, Nat.reduceSub, Nat.reduceMul, Nat.zero_add, List.replicate, evK_go, reduceIte, Nat.reduceEqDiff, Nat.reduceLT, and_self, Int.zero_add]
  simp (implicitDefEqProofs := false) (dsimp := false) only [within_call, eval_nilI, ↓cdK_not, ↓gdK_f, ↓gval_mk, ↓gvL_zero, ↓gvL_succ, ↓ops_cons, ↓ops_guard, ↓eval_tmp, ↓put_some, ↓bK_b, ↓op_move, ↓op_not, ↓st_tm, List.getD_cons_zero, List.getD_cons_succ, List.set_cons_zero, List.set_cons_succ, Bool.true_and, Bool.true_or, Nat.reduceAdd, Nat.reduceSub, Nat.reduceMul, evK_go, reduceIte, Nat.reduceEqDiff, Nat.reduceLT, true_and]
  refine OrH.l (OrH.l (cdK_split (fun hA => ?_) (fun hA => ?_)))
  rotate_left
  · have e : mchk left right l = 1 := by simp (implicitDefEqProofs := false) (dsimp := false) only [mchk, hA, Bool.false_and, reduceIte]
    rw [e]
    simp (implicitDefEqProofs := false) (dsimp := false) only [hA, nc97, erD_1, ↓cdK_true, ↓gdK_f, ↓gval_mk, ↓gvL_zero, ↓gvL_succ, ↓aw_cond, ↓aw_seq, ↓aw_ret, ↓aw_reg, ↓Qseq_n, ↓Qseq_r, ↓Qret_r, ↓ops_nil, ↓ops_cons, ↓ops_guard, ↓eval_tmp, ↓eval_int, ↓eval_bool, ↓put_some, ↓bK_b, ↓vK_c, ↓op_assign, ↓op_pick, ↓op_iface, ↓td_d, ↓ret_1, ↓st_tm, ↓nc97, List.getD_cons_zero, List.getD_cons_succ, List.set_cons_zero, List.set_cons_succ, Bool.and_self, Nat.reduceAdd, Nat.reduceSub, Nat.reduceMul, evK_go, reduceIte, Bool.not_false, Nat.reduceEqDiff, Nat.reduceLT, and_self]
  simp (implicitDefEqProofs := false) (dsimp := false) only [hA, within_call, ↓cdK_false, ↓cdK_not, ↓gdK_f, ↓gval_mk, ↓gvL_zero, ↓gvL_succ, ↓aw_cond, ↓Qseq_n, ↓ops_nil, ↓ops_cons, ↓ops_guard, ↓eval_tmp, ↓eval_int, ↓eval_func, ↓put_some, ↓bK_b, ↓op_move, ↓op_pick, ↓op_not, ↓op_call, isD_d, ↓fnK_f, ↓call_H, ↓callK_H, ↓allT_nil, ↓allT_cons, ↓td_d, ↓st_tm, List.getD_cons_zero, List.getD_cons_succ, List.set_cons_zero, List.set_cons_succ, List.append_nil, List.all_cons, List.all_nil, Bool.true_and, Bool.and_self, Bool.true_or, Nat.reduceAdd, Nat.reduceSub, Nat.reduceMul, evK_go, reduceIte, Bool.not_true, Nat.reduceEqDiff, Nat.reduceLT, and_self, true_and]
  refine OrH.l (OrH.l (cdK_split (fun hB => ?_) (fun hB => ?_)))
  rotate_left
  · have e : mchk left right l = 1 := by simp (implicitDefEqProofs := false) (dsimp := false) only [mchk, hB, Bool.and_false, reduceIte]
    rw [e]
    simp (implicitDefEqProofs := false) (dsimp := false) only [hB, nc97, erD_1, ↓aw_seq, ↓aw_ret, ↓aw_reg, ↓Qseq_n, ↓Qseq_r, ↓Qret_r, ↓ops_nil, ↓ops_cons, ↓eval_tmp, ↓eval_int, ↓put_some, ↓vK_c, ↓op_assign, ↓op_iface, ↓td_d, ↓ret_1, ↓nc97, List.getD_cons_zero, List.getD_cons_succ, List.set_cons_zero, List.set_cons_succ, Bool.and_self, Nat.reduceAdd, Nat.reduceSub, Nat.reduceMul, evK_go, reduceIte, Bool.not_false, Nat.reduceEqDiff, Nat.reduceLT, and_self]
  simp (implicitDefEqProofs := false) (dsimp := false) only [hB, ↓aw_cond, ↓aw_seq, ↓aw_skip, ↓aw_reg, ↓Qseq_n, ↓ops_nil, ↓ops_cons, ↓eval_tmp, ↓eval_int, ↓put_some, ↓bK_b, ↓lenK_l, ↓binE_i, ↓bi_gtr, ↓op_move, ↓op_bin, ↓op_len, ↓sl22, List.getD_cons_zero, List.getD_cons_succ, List.set_cons_zero, List.set_cons_succ, List.length_map, Nat.reduceAdd, Nat.reduceSub, Nat.reduceMul, evK_go, reduceIte, Bool.not_true, Nat.reduceEqDiff, Nat.reduceLT]
  refine cdK_dec (fun h24 => ?_) (fun h24 => ?_)
  · have e : mchk left right l = 4 := by
      unfold mchk
      rw [hA, hB, if_neg (by decide), if_pos (by omega)]
    rw [e]
    simp (implicitDefEqProofs := false) (dsimp := false) only [nc97, erD_4, ↓aw_seq, ↓aw_ret, ↓aw_reg, ↓Qseq_n, ↓Qseq_r, ↓Qret_r, ↓ops_nil, ↓ops_cons, ↓eval_tmp, ↓eval_int, ↓put_some, ↓vK_c, ↓op_assign, ↓op_iface, ↓td_d, ↓ret_1, ↓nc97, List.getD_cons_zero, List.getD_cons_succ, List.set_cons_zero, List.set_cons_succ, Bool.and_self, Nat.reduceAdd, Nat.reduceSub, Nat.reduceMul, evK_go, reduceIte, Nat.reduceEqDiff, Nat.reduceLT, and_self]
  have hc : mchk left right l = firstErr (mErr left right) l := by
    unfold mchk
    rw [hA, hB, if_neg (by decide), if_neg (by omega)]
  rw [hc]
  simp (implicitDefEqProofs := false) (dsimp := false) only [↓aw_seq, ↓aw_block, ↓aw_skip, ↓aw_loop, ↓aw_reg, ↓Qseq_n, ↓ops_nil, ↓ops_cons, ↓eval_tmp, ↓eval_int, ↓put_some, ↓lenK_l, ↓op_move, ↓op_len, ↓sl22, List.getD_cons_zero, List.getD_cons_succ, List.set_cons_zero, List.set_cons_succ, List.length_map, Nat.reduceAdd, Nat.reduceSub, Nat.reduceMul, evK_go, reduceIte, Nat.reduceEqDiff, Nat.reduceLT]
  have hA' := inB_iff.1 hA
  have hB' := inB_iff.1 hB
  refine loopW (fun k : Nat => { tm := slots 44 [(0, .d (I .i64 left)), (1, .d (I .i64 right)), (22, .d (.l (l.map lnD))), (23, .d (I .i64 l.length)), (24, .d (I .i64 k))], bx := [], rw := [] })
    (fun k => k ≤ l.length ∧ firstErr (mErr left right) (l.take k) = 0) (fun k => l.length - k) 0 ⟨by simp, by simp [firstErr]⟩ ?_ ?_
  · refine Wkn.of [] [] ?_; simp (implicitDefEqProofs := false) (dsimp := false) only [List.set_cons_zero, List.set_cons_succ, Bool.and_self, Nat.reduceAdd, Nat.reduceSub, Nat.reduceMul, List.replicate, evK_go, reduceIte, Nat.reduceEqDiff, Nat.reduceLT, and_self, List.foldl_cons, List.foldl_nil, Int.cast_ofNat_Int, slots, wkL_nil, wkL_cons, wkB_nil, wkR_nil, wkV_j, wkV_d, frz_d, reduceCtorEq]
  · rintro k ⟨h1, h2⟩
    simp (implicitDefEqProofs := false) (dsimp := false) only [slots, ↓aw_cond, ↓aw_seq, ↓aw_reg, ↓Qseq_n, ↓ops_nil, ↓ops_cons, ↓eval_tmp, ↓put_some, ↓bK_b, ↓binE_i, ↓bi_lss, ↓op_bin, List.getD_cons_zero, List.getD_cons_succ, List.set_cons_zero, List.set_cons_succ, Nat.reduceAdd, Nat.reduceSub, Nat.reduceMul, List.replicate, evK_go, reduceIte, Nat.reduceEqDiff, Nat.reduceLT, List.foldl_cons, List.foldl_nil, Int.ofNat_lt]
    refine cdK_dec (fun h => ?_) (fun h => ?_)
    · obtain ⟨g1, g2⟩ := firstErr_take h h2
      simp (implicitDefEqProofs := false) (dsimp := false) only [h, lnD, within_call, ↓cdK_not, ↓gdK_f, ↓gval_mk, ↓gvL_zero, ↓gvL_succ, ↓atK_H, ↓atH_map, ↓nthK_H, ↓nthH_zero, ↓aw_seq, ↓aw_block, ↓aw_skip, ↓aw_reg, ↓Qseq_n, ↓ops_nil, ↓ops_cons, ↓ops_guard, ↓eval_tmp, ↓eval_int, ↓eval_func, ↓put_some, ↓put_none, ↓bK_b, ↓iK_i, ↓binE_i, ↓bi_sub, ↓in_i64, ↓ldK_q, ↓ldK_p, ↓faK_p, ↓iaK_l, ↓op_move, ↓op_load, ↓op_bin, ↓op_not, ↓op_fa, ↓op_ia, ↓op_call, ↓op_alloc, ↓op_store, isD_d, ↓fnK_f, ↓call_H, ↓callK_H, ↓allT_nil, ↓allT_cons, ↓td_d, ↓addBox_mk, ↓setBox_mk, ↓st_tm, ↓st_bx, ↓cells_s, ↓vcells_s, ↓one_i, ↓vone_d, constV_a, ↓st_p, ↓ty3, ↓sl22, ↓ty35, ↓zb35, ↓fd35_0, List.getD_cons_zero, List.getD_cons_succ, List.set_cons_zero, List.set_cons_succ, List.nil_append, List.append_nil, List.map_cons, List.map_nil, List.length_cons, List.length_nil, List.all_cons, List.all_nil, Bool.true_and, Bool.and_self, Bool.true_or, Nat.reduceAdd, Nat.reduceSub, Nat.reduceMul, Nat.zero_add, Nat.add_zero, Int.toNat_natCast, evK_go, reduceIte, decide_true, Nat.reduceEqDiff, Nat.reduceLT, and_self, true_and, Int.zero_add, List.take_succ_cons, List.take_nil, Int.natCast_nonneg]
      refine ⟨by decide, by omega, OrH.l (OrH.l (cdK_split (fun ha => ?_) (fun ha => ?_)))⟩
      rotate_left
      · have e : mErr left right (l.getD k default) = 1 := by simp (implicitDefEqProofs := false) (dsimp := false) only [mErr, ha, Bool.false_and, Bool.false_eq_true, reduceIte]
        rw [g2 (by rw [e]; decide), e]
        simp (implicitDefEqProofs := false) (dsimp := false) only [ha, nc97, erD_1, ↓cdK_true, ↓gdK_f, ↓gval_mk, ↓gvL_zero, ↓gvL_succ, ↓aw_cond, ↓aw_seq, ↓aw_ret, ↓aw_reg, ↓Qseq_n, ↓Qseq_r, ↓Qblk_r, ↓Qret_r, ↓ops_nil, ↓ops_cons, ↓ops_guard, ↓eval_tmp, ↓eval_int, ↓eval_bool, ↓put_some, ↓bK_b, ↓vK_c, ↓op_assign, ↓op_pick, ↓op_iface, ↓td_d, ↓ret_1, ↓st_tm, ↓nc97, List.getD_cons_zero, List.getD_cons_succ, List.set_cons_zero, List.set_cons_succ, Bool.and_self, Nat.reduceAdd, Nat.reduceSub, Nat.reduceMul, evK_go, reduceIte, Bool.not_false, Nat.reduceEqDiff, Nat.reduceLT, and_self]
      simp (implicitDefEqProofs := false) (dsimp := false) only [ha, within_call, ↓cdK_false, ↓cdK_not, ↓gdK_f, ↓gval_mk, ↓gvL_zero, ↓gvL_succ, ↓nthK_H, ↓nthH_zero, ↓nthH_succ, ↓aw_cond, ↓Qseq_n, ↓ops_nil, ↓ops_cons, ↓ops_guard, ↓eval_tmp, ↓eval_int, ↓eval_func, ↓put_some, ↓bK_b, ↓binE_i, ↓bi_sub, ↓in_i64, ↓ldK_p, ↓faK_p, ↓op_move, ↓op_pick, ↓op_load, ↓op_bin, ↓op_not, ↓op_fa, ↓op_call, isD_d, ↓fnK_f, ↓call_H, ↓callK_H, ↓allT_nil, ↓allT_cons, ↓td_d, ↓st_tm, ↓vcells_s, ↓ty3, ↓fd35_1, List.getD_cons_zero, List.getD_cons_succ, List.set_cons_zero, List.set_cons_succ, List.append_nil, List.map_cons, List.map_nil, List.all_cons, List.all_nil, Bool.true_and, Bool.and_self, Bool.true_or, Nat.reduceAdd, Nat.reduceSub, Nat.reduceMul, Nat.zero_add, evK_go, reduceIte, Bool.not_true, Nat.reduceEqDiff, Nat.reduceLT, and_self, true_and, Int.zero_add]
      refine ⟨by omega, OrH.l (OrH.l (cdK_split (fun hb => ?_) (fun hb => ?_)))⟩
      · have e : mErr left right (l.getD k default) = 0 := by simp (implicitDefEqProofs := false) (dsimp := false) only [mErr, ha, hb, Bool.and_self, reduceIte]
        simp (implicitDefEqProofs := false) (dsimp := false) only [hb, ↓aw_skip, ↓aw_reg, ↓Qseq_n, ↓Qblk_n, ↓ops_nil, ↓ops_cons, ↓eval_tmp, ↓eval_int, ↓put_some, ↓binE_i, ↓bi_add, ↓in_i64, ↓op_move, ↓op_bin, List.getD_cons_zero, List.getD_cons_succ, List.set_cons_zero, List.set_cons_succ, Nat.reduceAdd, Nat.reduceSub, Nat.reduceMul, evK_go, reduceIte, Bool.not_true, Nat.reduceEqDiff, Nat.reduceLT]
        refine ⟨by omega, k + 1, ⟨by omega, g1 e⟩, by omega, ?_⟩
        refine Wkn.of [] [] ?_; simp (implicitDefEqProofs := false) (dsimp := false) only [List.set_cons_zero, List.set_cons_succ, Bool.and_self, Nat.reduceAdd, Nat.reduceSub, Nat.reduceMul, List.replicate, evK_go, reduceIte, Nat.reduceEqDiff, Nat.reduceLT, and_self, List.foldl_cons, List.foldl_nil, Int.cast_ofNat_Int, Int.natCast_add, slots, wkL_nil, wkL_cons, wkB_nil, wkR_nil, wkV_j, wkV_d, frz_d, reduceCtorEq]
      · have e : mErr left right (l.getD k default) = 1 := by simp (implicitDefEqProofs := false) (dsimp := false) only [mErr, hb, Bool.and_false, Bool.false_eq_true, reduceIte]
        rw [g2 (by rw [e]; decide), e]
        simp (implicitDefEqProofs := false) (dsimp := false) only [hb, nc97, erD_1, ↓aw_seq, ↓aw_ret, ↓aw_reg, ↓Qseq_n, ↓Qseq_r, ↓Qblk_r, ↓Qret_r, ↓ops_nil, ↓ops_cons, ↓eval_tmp, ↓eval_int, ↓put_some, ↓vK_c, ↓op_assign, ↓op_iface, ↓td_d, ↓ret_1, ↓nc97, List.getD_cons_zero, List.getD_cons_succ, List.set_cons_zero, List.set_cons_succ, Bool.and_self, Nat.reduceAdd, Nat.reduceSub, Nat.reduceMul, evK_go, reduceIte, Bool.not_false, Nat.reduceEqDiff, Nat.reduceLT, and_self]
    · obtain rfl : k = l.length := by omega
      rw [List.take_length] at h2
      rw [h2]
      simp (implicitDefEqProofs := false) (dsimp := false) only [erD_0, eval_nilI, ↓aw_seq, ↓aw_exit, ↓aw_ret, ↓aw_reg, ↓Qseq_n, ↓Qseq_x, ↓Qblk_x, ↓Qret_r, ↓ops_nil, ↓ops_cons, ↓eval_tmp, ↓put_some, ↓op_assign, ↓td_d, ↓ret_1, List.getD_cons_zero, List.getD_cons_succ, List.set_cons_zero, List.set_cons_succ, Nat.reduceAdd, Nat.reduceSub, Nat.reduceMul, evK_go, reduceIte, decide_false, Nat.reduceEqDiff, Nat.reduceLT, Nat.lt_irrefl]
theorem mcheck_call (left right : Int) (l : List (Int × Int)) (pure : Bool) (σ : St) (dst : Option Tmp) (K : St → Prop) : CallH Try.prog 67 [I .i64 left, I .i64 right, .l (l.map lnD)] pure σ dst (.mk : Hid K) = OrH ((l.length < 2 ^ 62) ∧ (pure || D.flat (erD (mchk left right l))) = true ∧ evK (σ.put dst (.d (erD (mchk left right l)))) (.mk : Hid K)) (.mk : Hid (CallH Try.prog 67 [I .i64 left, I .i64 right, .l (l.map lnD)] pure σ dst (.mk : Hid K))) := CallH.eq (mcheck_spec left right l) pure σ dst K
theorem mcheck_callQ (left right : Int) (l : List (Int × Int)) (pure : Bool) (C : V → Prop) : CallQ Try.prog 67 [I .i64 left, I .i64 right, .l (l.map lnD)] pure (.mk : Hid C) = OrH ((l.length < 2 ^ 62) ∧ (pure || D.flat (erD (mchk left right l))) = true ∧ evK (V.d (erD (mchk left right l))) (.mk : Hid C)) (.mk : Hid (CallQ Try.prog 67 [I .i64 left, I .i64 right, .l (l.map lnD)] pure (.mk : Hid C))) := CallQ.eq (mcheck_spec left right l) pure C
/-- What two sides without fault are. -/
structure MOk (left right : Int) (l : List (Int × Int)) : Prop where
  l0 : left = (left.toNat : Int)
  r0 : right = (right.toNat : Int)
  lhi : left.toNat ≤ 6
  rhi : right.toNat ≤ 6
  len : l.length ≤ 24
  rng : ∀ p ∈ l, 0 ≤ p.1 ∧ 0 ≤ p.2
  sides : Sides left.toNat right.toNat (natL l)
theorem mchk_iff {left right : Int} {l : List (Int × Int)} : mchk left right l = 0 ↔ ((0 ≤ left ∧ left ≤ 6) ∧ 0 ≤ right ∧ right ≤ 6) ∧ l.length ≤ 24 ∧ ∀ p ∈ l, (0 ≤ p.1 ∧ p.1 ≤ left - 1) ∧ 0 ≤ p.2 ∧ p.2 ≤ right - 1 := by
  have hm : ∀ p, mErr left right p = 0 ↔ (0 ≤ p.1 ∧ p.1 ≤ left - 1) ∧ 0 ≤ p.2 ∧ p.2 ≤ right - 1 := fun p => by
    unfold mErr
    rw [← inB_iff, ← inB_iff, ← Bool.and_eq_true]
    split
    · rename_i h; exact ⟨fun _ => h, fun _ => rfl⟩
    · rename_i h; exact ⟨(fun h' => by cases h'), fun h' => absurd h' h⟩
  unfold mchk
  rw [← inB_iff, ← inB_iff, ← Bool.and_eq_true]
  split
  · rename_i h
    constructor
    · intro h; cases h
    · intro h'; rw [h] at h'; exact absurd h'.1 (by decide)
  · rename_i h
    have h : (inB left 0 6 && inB right 0 6) = true := by simpa using h
    split
    · constructor
      · intro h; cases h
      · intro h; omega
    · rw [firstErr_iff]
      constructor
      · intro h'; exact ⟨h, by omega, fun p hp => (hm p).1 (h' p hp)⟩
      · intro h' p hp; exact (hm p).2 (h'.2.2 p hp)
theorem mchk_ok {left right : Int} {l : List (Int × Int)} (h : mchk left right l = 0) : MOk left right l := by
  rw [mchk_iff] at h
  refine ⟨by omega, by omega, by omega, by omega, h.2.1, fun p hp => ⟨(h.2.2 p hp).1.1, (h.2.2 p hp).2.1⟩, fun p hp => ?_⟩
  obtain ⟨q, hq, rfl⟩ := List.mem_map.1 hp
  have := h.2.2 q hq
  simp (implicitDefEqProofs := false) (dsimp := false) only [natP]; omega
theorem MOk.pr {left right : Int} {l : List (Int × Int)} (h : MOk left right l) : left.toNat ≤ 8 ∧ right.toNat ≤ 8 ∧ (natL l).length < 2 ^ 62 ∧ Sides left.toNat right.toNat (natL l) := ⟨by have := h.lhi; omega, by have := h.rhi; omega, by rw [natL_len]; have := h.len; omega, h.sides⟩
def mostR (left right : Int) (l : List (Int × Int)) : Nat := if mchk left right l = 0 then mostK (kuhn left.toNat right.toNat (natL l)) else 0
def cntP (s : List Int) : Nat := s.countP fun x => decide (0 ≤ x)
theorem cntP_succ {s : List Int} {k : Nat} (h : k < s.length) : cntP (s.take (k + 1)) = cntP (s.take k) + if 0 ≤ s.getD k default then 1 else 0 := by
  unfold cntP
  rw [take_succ_getD h, List.countP_append]
  simp [List.countP_cons]
theorem cntP_most (s : List Int) : cntP s = mostK s := by
  unfold cntP mostK metR
  have e : s = (List.range s.length).map fun j => s.getD j default := by
    refine List.ext_getElem (by simp) fun i h1 h2 => ?_
    simp (implicitDefEqProofs := false) (dsimp := false) only [List.getElem_map, List.getElem_range]
    rw [List.getD_eq_getElem?_getD, List.getElem?_eq_getElem h1]; rfl
  conv => lhs; rw [e]
  rw [List.countP_map, List.countP_eq_length_filter]; rfl
theorem cntP_le (s : List Int) : cntP s ≤ s.length := List.countP_le_length
theorem most_spec (left right : Int) (l : List (Int × Int)) (hpre : l.length < 2 ^ 62) : FnD Try.prog 27 [I .i64 left, I .i64 right, .l (l.map lnD)] (.t [I .i64 (mostR left right l : Nat), erD (mchk left right l)]) := by
  refine FnD.go Try.func27 rfl rfl Try.results27 Try.ntmps27 ?_
  simp (implicitDefEqProofs := false) (dsimp := false) only [↓aw_seq, ↓aw_reg, ↓Qseq_n, ↓ops_nil, ↓ops_cons, ↓eval_tmp, ↓eval_int, ↓eval_func, ↓put_some, ↓op_move, ↓op_assign, ↓op_call, isD_d, ↓fnK_f, ↓call_H, ↓callK_H, ↓allT_nil, ↓allT_cons, ↓td_d, List.getD_cons_zero, List.getD_cons_succ, List.set_cons_zero, List.set_cons_succ, List.cons_append, List.nil_append, List.append_nil, List.map_cons, List.map_nil, List.length_cons, List.length_nil, List.all_cons, List.all_nil, Bool.and_self, Nat.reduceAdd, Nat.reduceSub, Nat.reduceMul, Nat.zero_add, List.replicate, evK_go, reduceIte, Nat.reduceEqDiff, Nat.reduceLT, and_self, Int.zero_add]
  simp (implicitDefEqProofs := false) (dsimp := false) only [mcheck_call, eval_nilI, ↓er_neq, er_flat, ↓cdK_not, ↓aw_cond, ↓aw_seq, ↓aw_reg, ↓Qseq_n, ↓ops_nil, ↓ops_cons, ↓eval_tmp, ↓put_some, ↓bK_b, ↓op_move, ↓op_assign, ↓op_bin, List.getD_cons_zero, List.getD_cons_succ, List.set_cons_zero, List.set_cons_succ, Bool.true_and, Bool.or_true, Nat.reduceAdd, Nat.reduceSub, Nat.reduceMul, evK_go, reduceIte, Nat.reduceEqDiff, Nat.reduceLT, true_and]
  refine OrH.l (OrH.l ⟨hpre, ?_⟩)
  refine cdK_dec (fun hc => ?_) (fun hc => ?_)
  rotate_left
  · simp (implicitDefEqProofs := false) (dsimp := false) only [mostR, hc, ↓aw_seq, ↓aw_ret, ↓aw_reg, ↓Qseq_n, ↓Qseq_r, ↓Qret_r, ↓ops_nil, ↓ops_cons, ↓eval_tmp, ↓eval_int, ↓put_some, ↓op_move, ↓op_assign, ↓td_d, ↓ret_2, List.getD_cons_zero, List.getD_cons_succ, List.set_cons_zero, List.set_cons_succ, Nat.reduceAdd, Nat.reduceSub, Nat.reduceMul, evK_go, reduceIte, decide_false, Bool.not_false, Nat.reduceEqDiff, Nat.reduceLT, Int.cast_ofNat_Int]
  have ok := mchk_ok hc
  rw [show mostR left right l = mostK (kuhn left.toNat right.toNat (natL l)) from if_pos hc, lnD_nat ok.rng, hc]
  have hpr := ok.pr
  have el := ok.l0
  have er := ok.r0
  have hkl : (kuhn left.toNat right.toNat (natL l)).length = right.toNat := (kuhn_end ok.sides (by have := ok.rhi; omega)).ok.len
  have hr8 := ok.rhi
  clear ok hc hpre
  generalize left.toNat = a at *
  generalize right.toNat = b at *
  subst el er
  generalize natL l = L at *
  simp (implicitDefEqProofs := false) (dsimp := false) only [pairs_callD, hpr, ↓aw_seq, ↓aw_block, ↓aw_skip, ↓aw_loop, ↓aw_reg, ↓Qseq_n, ↓ops_nil, ↓ops_cons, ↓eval_tmp, ↓eval_int, ↓eval_func, ↓put_some, ↓lenK_l, ↓op_move, ↓op_assign, ↓op_len, ↓op_call, isD_d, ↓fnK_f, ↓call_H, ↓callK_H, ↓allT_nil, ↓allT_cons, ↓td_d, ↓sl28, List.getD_cons_zero, List.getD_cons_succ, List.set_cons_zero, List.set_cons_succ, List.append_nil, List.length_map, List.all_cons, List.all_nil, Bool.true_and, Bool.and_self, Bool.true_or, Nat.reduceAdd, Nat.reduceSub, Nat.reduceMul, evK_go, reduceIte, decide_true, Bool.not_true, Nat.reduceEqDiff, Nat.reduceLT, and_self, true_and]
  (repeat refine OrH.l ?_)
  rw [← cntP_most]
  generalize kuhn a b L = H at hkl ⊢
  simp (implicitDefEqProofs := false) (dsimp := false) only [hkl]
  refine loopW (fun k : Nat => { tm := slots 34 [(9, .d (I .i64 (cntP (H.take k) : Nat))), (22, .d (.l (H.map (I .i64)))), (23, .d (I .i64 (b : Int))), (24, .d (I .i64 k))], bx := [], rw := [] })
    (fun k => k ≤ b) (fun k => b - k) 0 (by simp) ?_ ?_
  · refine Wkn.of [] [] ?_; simp (implicitDefEqProofs := false) (dsimp := false) only [cntP, List.countP_nil, List.set_cons_zero, List.set_cons_succ, Bool.and_self, Nat.reduceAdd, Nat.reduceSub, Nat.reduceMul, List.replicate, evK_go, reduceIte, Nat.reduceEqDiff, Nat.reduceLT, and_self, List.take_zero, List.foldl_cons, List.foldl_nil, Int.cast_ofNat_Int, slots, wkL_nil, wkL_cons, wkB_nil, wkR_nil, wkV_j, wkV_d, frz_d, reduceCtorEq]
  · intro k hk
    simp (implicitDefEqProofs := false) (dsimp := false) only [slots, ↓aw_cond, ↓aw_seq, ↓aw_reg, ↓Qseq_n, ↓ops_nil, ↓ops_cons, ↓eval_tmp, ↓put_some, ↓bK_b, ↓binE_i, ↓bi_lss, ↓op_bin, List.getD_cons_zero, List.getD_cons_succ, List.set_cons_zero, List.set_cons_succ, Nat.reduceAdd, Nat.reduceSub, Nat.reduceMul, List.replicate, evK_go, reduceIte, Nat.reduceEqDiff, Nat.reduceLT, List.foldl_cons, List.foldl_nil, Int.ofNat_lt]
    have hm := cntP_le (H.take k)
    rw [List.length_take] at hm
    refine cdK_dec (fun h => ?_) (fun h => ?_)
    · have hkH : k < H.length := by omega
      have hs := cntP_succ hkH
      simp (implicitDefEqProofs := false) (dsimp := false) only [hkH, ↓atK_H, ↓atH_map, ↓aw_cond, ↓aw_seq, ↓aw_block, ↓aw_skip, ↓aw_reg, ↓Qseq_n, ↓ops_nil, ↓ops_cons, ↓eval_tmp, ↓eval_int, ↓put_some, ↓bK_b, ↓iK_i, ↓binE_i, ↓bi_geq, ↓ldK_q, ↓iaK_l, ↓op_move, ↓op_assign, ↓op_load, ↓op_bin, ↓op_ia, ↓cells_c, ↓hd_cons, ↓ty3, ↓sl28, List.getD_cons_zero, List.getD_cons_succ, List.set_cons_zero, List.set_cons_succ, List.length_cons, List.length_nil, Bool.true_and, Nat.reduceAdd, Nat.reduceSub, Nat.reduceMul, Nat.zero_add, Int.toNat_natCast, evK_go, reduceIte, Nat.reduceEqDiff, Nat.reduceLT, true_and, Int.zero_add, Int.natCast_nonneg]
      refine cdK_dec (fun h1 => ?_) (fun h1 => ?_)
      · rw [if_pos h1] at hs
        simp (implicitDefEqProofs := false) (dsimp := false) only [↓aw_reg, ↓Qseq_n, ↓Qblk_n, ↓ops_nil, ↓ops_cons, ↓eval_tmp, ↓eval_int, ↓put_some, ↓binE_i, ↓bi_add, ↓in_i64, ↓op_move, ↓op_assign, ↓op_bin, List.getD_cons_zero, List.getD_cons_succ, List.set_cons_zero, List.set_cons_succ, Nat.reduceAdd, Nat.reduceSub, Nat.reduceMul, evK_go, reduceIte, Nat.reduceEqDiff, Nat.reduceLT]
        refine ⟨by omega, by omega, k + 1, by omega, by omega, ?_⟩
        refine Wkn.of [] [] ?_; simp (implicitDefEqProofs := false) (dsimp := false) only [hs, List.set_cons_zero, List.set_cons_succ, Bool.and_self, Nat.reduceAdd, Nat.reduceSub, Nat.reduceMul, List.replicate, evK_go, reduceIte, Nat.reduceEqDiff, Nat.reduceLT, and_self, List.foldl_cons, List.foldl_nil, Int.cast_ofNat_Int, Int.natCast_add, slots, wkL_nil, wkL_cons, wkB_nil, wkR_nil, wkV_j, wkV_d, frz_d, reduceCtorEq]
      · rw [if_neg h1] at hs
        simp (implicitDefEqProofs := false) (dsimp := false) only [↓aw_skip, ↓aw_reg, ↓Qseq_n, ↓Qblk_n, ↓ops_nil, ↓ops_cons, ↓eval_tmp, ↓eval_int, ↓put_some, ↓binE_i, ↓bi_add, ↓in_i64, ↓op_move, ↓op_bin, List.getD_cons_zero, List.getD_cons_succ, List.set_cons_zero, List.set_cons_succ, Nat.reduceAdd, Nat.reduceSub, Nat.reduceMul, evK_go, reduceIte, Nat.reduceEqDiff, Nat.reduceLT]
        refine ⟨by omega, k + 1, by omega, by omega, ?_⟩
        refine Wkn.of [] [] ?_; simp (implicitDefEqProofs := false) (dsimp := false) only [hs, List.set_cons_zero, List.set_cons_succ, Bool.and_self, Nat.reduceAdd, Nat.reduceSub, Nat.reduceMul, Nat.add_zero, List.replicate, evK_go, reduceIte, Nat.reduceEqDiff, Nat.reduceLT, and_self, List.foldl_cons, List.foldl_nil, Int.cast_ofNat_Int, Int.natCast_add, slots, wkL_nil, wkL_cons, wkB_nil, wkR_nil, wkV_j, wkV_d, frz_d, reduceCtorEq]
    · obtain rfl : k = b := by omega
      rw [List.take_of_length_le (by omega)]
      simp (implicitDefEqProofs := false) (dsimp := false) only [erD_0, eval_nilI, ↓aw_seq, ↓aw_exit, ↓aw_ret, ↓aw_reg, ↓Qseq_n, ↓Qseq_x, ↓Qblk_x, ↓Qret_r, ↓ops_nil, ↓ops_cons, ↓eval_tmp, ↓put_some, ↓op_move, ↓op_assign, ↓td_d, ↓ret_2, List.getD_cons_zero, List.getD_cons_succ, List.set_cons_zero, List.set_cons_succ, Nat.reduceAdd, Nat.reduceSub, Nat.reduceMul, evK_go, reduceIte, decide_false, Nat.reduceEqDiff, Nat.reduceLT, Nat.lt_irrefl]
theorem most_call (left right : Int) (l : List (Int × Int)) (pure : Bool) (σ : St) (dst : Option Tmp) (K : St → Prop) : CallH Try.prog 27 [I .i64 left, I .i64 right, .l (l.map lnD)] pure σ dst (.mk : Hid K) = OrH ((l.length < 2 ^ 62) ∧ (pure || D.flat (.t [I .i64 (mostR left right l : Nat), erD (mchk left right l)])) = true ∧ evK (σ.put dst (.d (.t [I .i64 (mostR left right l : Nat), erD (mchk left right l)]))) (.mk : Hid K)) (.mk : Hid (CallH Try.prog 27 [I .i64 left, I .i64 right, .l (l.map lnD)] pure σ dst (.mk : Hid K))) := CallH.eq (most_spec left right l) pure σ dst K
theorem most_callQ (left right : Int) (l : List (Int × Int)) (pure : Bool) (C : V → Prop) : CallQ Try.prog 27 [I .i64 left, I .i64 right, .l (l.map lnD)] pure (.mk : Hid C) = OrH ((l.length < 2 ^ 62) ∧ (pure || D.flat (.t [I .i64 (mostR left right l : Nat), erD (mchk left right l)])) = true ∧ evK (V.d (.t [I .i64 (mostR left right l : Nat), erD (mchk left right l)])) (.mk : Hid C)) (.mk : Hid (CallQ Try.prog 27 [I .i64 left, I .i64 right, .l (l.map lnD)] pure (.mk : Hid C))) := CallQ.eq (most_spec left right l) pure C
def covA (left right : Int) (l : List (Int × Int)) : List Nat := if mchk left right l = 0 then coverA left.toNat right.toNat (natL l) else []
def covB (left right : Int) (l : List (Int × Int)) : List Nat := if mchk left right l = 0 then coverB left.toNat right.toNat (natL l) else []
def met0K (left : Nat) (has : List Int) (k : Nat) : Nat := (has.take k).foldl (fun m h => if h < 0 then m else dif m (2 ^ h.toNat)) (2 ^ left - 1)
theorem met0K_succ (left : Nat) {has : List Int} {k : Nat} (h : k < has.length) : met0K left has (k + 1) = if has.getD k default < 0 then met0K left has k else dif (met0K left has k) (2 ^ (has.getD k default).toNat) := by
  unfold met0K
  rw [take_succ_getD h, List.foldl_append]; rfl
theorem met0K_lt {left : Nat} (hl : left ≤ 64) (has : List Int) (k : Nat) : met0K left has k < 2 ^ 64 := by
  unfold met0K
  generalize has.take k = L
  have h0 : 2 ^ left - 1 < 2 ^ 64 := by
    have h1 := Nat.one_le_two_pow (n := left)
    have h2 : 2 ^ left ≤ 2 ^ 64 := Nat.pow_le_pow_right (by omega) hl
    omega
  generalize 2 ^ left - 1 = m at h0
  induction L generalizing m with
  | nil => exact h0
  | cons x L ih =>
    refine ih _ ?_
    show (if _ then _ else _) < _
    split
    · exact h0
    · exact dif_lt h0
structure RC where
  met : Nat
  over : Nat
  pre : List Nat
  q : List Nat
structure RM where
  m : Nat
  s : CS
  pre : List Nat
theorem bits64 {s n : Nat} (h : ∀ i, s.testBit i = true → i < n) (hn : n ≤ 64) : s < 2 ^ 64 := by
  refine Nat.lt_pow_two_of_testBit _ fun i hi => ?_
  rw [← Bool.not_eq_true]
  intro h'
  have := h i h'; omega
theorem cover_spec (left right : Int) (l : List (Int × Int)) (hpre : l.length < 2 ^ 62) : FnD Try.prog 28 [I .i64 left, I .i64 right, .l (l.map lnD)] (.t [.l ((covA left right l).map nD), .l ((covB left right l).map nD), erD (mchk left right l)]) := by
  refine FnD.go Try.func28 rfl rfl Try.results28 Try.ntmps28 ?_
  simp (implicitDefEqProofs := false) (dsimp := false) only [↓aw_seq, ↓aw_reg, ↓Qseq_n, ↓ops_nil, ↓ops_cons, ↓eval_tmp, ↓eval_nil, ↓eval_func, ↓put_some, ↓op_move, ↓op_assign, ↓op_call, isD_d, ↓fnK_f, ↓call_H, ↓callK_H, ↓allT_nil, ↓allT_cons, ↓td_d, List.getD_cons_zero, List.getD_cons_succ, List.set_cons_zero, List.set_cons_succ, List.cons_append, List.nil_append, List.append_nil, List.map_cons, List.map_nil, List.length_cons, List.length_nil, List.all_cons, List.all_nil, Bool.and_self, Nat.reduceAdd, Nat.reduceSub, Nat.reduceMul, Nat.zero_add, List.replicate, evK_go, reduceIte, Nat.reduceEqDiff, Nat.reduceLT, and_self, Int.zero_add]
  simp (implicitDefEqProofs := false) (dsimp := false) only [mcheck_call, eval_nilI, ↓er_neq, er_flat, ↓cdK_not, ↓aw_cond, ↓aw_seq, ↓aw_reg, ↓Qseq_n, ↓ops_nil, ↓ops_cons, ↓eval_tmp, ↓put_some, ↓bK_b, ↓op_move, ↓op_assign, ↓op_bin, List.getD_cons_zero, List.getD_cons_succ, List.set_cons_zero, List.set_cons_succ, Bool.true_and, Bool.or_true, Nat.reduceAdd, Nat.reduceSub, Nat.reduceMul, evK_go, reduceIte, Nat.reduceEqDiff, Nat.reduceLT, true_and]
  refine OrH.l (OrH.l ⟨hpre, ?_⟩)
  refine cdK_dec (fun hc => ?_) (fun hc => ?_)
  rotate_left
  · simp (implicitDefEqProofs := false) (dsimp := false) only [covA, covB, hc, ↓aw_seq, ↓aw_ret, ↓aw_reg, ↓Qseq_n, ↓Qseq_r, ↓Qret_r, ↓ops_nil, ↓ops_cons, ↓eval_tmp, ↓eval_nil, ↓put_some, ↓op_move, ↓op_assign, ↓td_d, ↓td_nl, ↓ret_3, List.getD_cons_zero, List.getD_cons_succ, List.set_cons_zero, List.set_cons_succ, List.map_nil, Nat.reduceAdd, Nat.reduceSub, Nat.reduceMul, evK_go, reduceIte, decide_false, Bool.not_false, Nat.reduceEqDiff, Nat.reduceLT]
  have ok := mchk_ok hc
  rw [show covA left right l = coverA left.toNat right.toNat (natL l) from if_pos hc, show covB left right l = coverB left.toNat right.toNat (natL l) from if_pos hc, lnD_nat ok.rng, hc]
  have hpr := ok.pr
  have el := ok.l0
  have er := ok.r0
  have hkok := (kuhn_end ok.sides (by have := ok.rhi; omega)).ok
  have hr8 := ok.rhi
  have hl8 := ok.lhi
  clear ok hc hpre
  generalize left.toNat = a at *
  generalize right.toNat = b at *
  subst el er
  generalize natL l = L at *
  have hs := hpr.2.2.2
  have hmax : (if 1 > (a : Int) then (1 : Int) else (a : Int)) = ((max a 1 : Nat) : Int) := by split <;> omega
  have hout : max a 1 ≤ 64 ∧ L.length < 2 ^ 62 ∧ ∀ p ∈ L, p.1 < max a 1 ∧ p.2 < 64 := ⟨by omega, hpr.2.2.1, fun p hp => by have := hs p hp; omega⟩
  have ha64 : a < 64 := by omega
  obtain ⟨c1, c2, c3⟩ := CI.start (has := kuhn a b L) a b L (by omega)
  have hfin : cRun (outS (max a 1) L) (kuhn a b L) a (cStart a (kuhn a b L)) = coverS a b L := rfl
  have hkl : (kuhn a b L).length = b := hkok.len
  have hol := outS_len (max a 1) L
  have hlt : ∀ x ∈ outS (max a 1) L, x < 2 ^ 64 := outS_lt _ _ fun p hp => by have := hs p hp; omega
  simp (implicitDefEqProofs := false) (dsimp := false) only [hmax, out_callD, hout, pairs_callD, hpr, below_call, ha64, ↓nthK_H, ↓nthH_zero, ↓aw_seq, ↓aw_block, ↓aw_skip, ↓aw_loop, ↓aw_reg, ↓Qseq_n, ↓ops_nil, ↓ops_cons, ↓eval_tmp, ↓eval_int, ↓eval_func, ↓put_some, ↓put_none, ↓iK_i, ↓lenK_l, ↓ldK_p, ↓op_move, ↓op_assign, ↓op_load, ↓op_len, ↓op_max, ↓op_call, ↓op_alloc, ↓op_store, isD_d, ↓fnK_f, ↓call_H, ↓callK_H, ↓allT_nil, ↓allT_cons, ↓td_d, ↓addBox_mk, ↓setBox_mk, ↓st_bx, ↓vcells_c, ↓vcells_l, ↓vcells_nl, ↓one_i, ↓one_l, ↓vone_d, constV_i, constV_n, ↓st_p, ↓ty28, ↓sl28, ↓zb28, ↓ty87, ↓zb87, List.getD_cons_zero, List.getD_cons_succ, List.set_cons_zero, List.set_cons_succ, List.cons_append, List.nil_append, List.append_nil, List.length_cons, List.length_nil, List.length_map, List.all_cons, List.all_nil, Bool.true_and, Bool.and_self, Bool.true_or, Nat.reduceAdd, Nat.reduceSub, Nat.reduceMul, Nat.zero_add, evK_go, reduceIte, decide_true, Bool.not_true, Nat.reduceEqDiff, Nat.reduceLT, and_self, true_and, Int.zero_add]
  (repeat refine OrH.l ?_)
  refine ⟨hout.2.2, ?_⟩
  (repeat refine OrH.l ?_)
  have eA : coverA a b L = pts (dif (2 ^ a - 1) (coverS a b L).met) := rfl
  have eB : coverB a b L = pts (coverS a b L).over := rfl
  have hnx : ∀ x j, ((outS (max a 1) L).getD x default).testBit j = true → (x, j) ∈ L := fun x j h => ((outS_bit _ _ _ _).1 h).2
  have hstep : ∀ st : CS, CI a b L (kuhn a b L) st → Cl L st → st.todo ≠ [] → CI a b L (kuhn a b L) (cStep (outS (max a 1) L) (kuhn a b L) st) ∧ Cl L (cStep (outS (max a 1) L) (kuhn a b L) st) ∧ (cStep (outS (max a 1) L) (kuhn a b L) st).todo.length + Go.Aw.cnt st.met + 1 = st.todo.length + Go.Aw.cnt (cStep (outS (max a 1) L) (kuhn a b L) st).met := fun st h1 h2 h3 => CI.cStep hs (by omega) (by omega) hkok h1 h2 h3
  rw [eA, eB]
  have eS : cStart a (kuhn a b L) = ⟨met0K a (kuhn a b L) b, 0, pts (met0K a (kuhn a b L) b)⟩ := by
    unfold cStart met0K met0
    rw [List.take_of_length_le (by omega)]
  rw [eS] at c1 c2 c3 hfin
  generalize kuhn a b L = H at *
  generalize outS (max a 1) L = N at *
  generalize coverS a b L = F at *
  have hw64 := met0K_lt (left := a) (by omega) H
  simp (implicitDefEqProofs := false) (dsimp := false) only [hkl]
  refine loopW (fun k : Nat => { tm := slots 95 [(0, .d (I .i64 (a : Int))), (10, .d (.l (N.map U))), (11, .p 0 0), (12, .p 1 0), (13, .p 2 0), (36, .d (.l (H.map (I .i64)))), (37, .d (I .i64 (b : Int))), (38, .d (I .i64 k))], bx := [.d (.l (H.map (I .i64))), .d (U (met0K a H k)), .d (U 0)], rw := [] })
    (fun k => k ≤ b) (fun k => b - k) 0 (by simp) ?_ ?_
  · refine Wkn.of [0, 1, 2] [] ?_
    simp (implicitDefEqProofs := false) (dsimp := false) only [met0K, List.foldl_nil, ↓vcells_c, ↓vcells_l, List.getD_cons_zero, List.getD_cons_succ, List.set_cons_zero, List.set_cons_succ, List.length_cons, List.length_nil, Bool.and_self, Nat.reduceAdd, Nat.reduceSub, Nat.reduceMul, Nat.zero_add, List.replicate, evK_go, reduceIte, Nat.reduceEqDiff, Nat.reduceLT, and_self, Int.zero_add, List.take_zero, List.foldl_cons, List.foldl_nil, Int.cast_ofNat_Int, slots, wkL_nil, wkL_cons, wkB_nil, wkB_cons, wkR_nil, wkV_j, wkV_d, wkV_p, frz_d, pK_z, pK_s, dc_eq, reduceCtorEq]
  · intro k hk
    simp (implicitDefEqProofs := false) (dsimp := false) only [slots, ↓aw_cond, ↓aw_seq, ↓aw_reg, ↓Qseq_n, ↓ops_nil, ↓ops_cons, ↓eval_tmp, ↓put_some, ↓bK_b, ↓binE_i, ↓bi_lss, ↓op_bin, List.getD_cons_zero, List.getD_cons_succ, List.set_cons_zero, List.set_cons_succ, Nat.reduceAdd, Nat.reduceSub, Nat.reduceMul, List.replicate, evK_go, reduceIte, Nat.reduceEqDiff, Nat.reduceLT, List.foldl_cons, List.foldl_nil, Int.ofNat_lt]
    refine cdK_dec (fun h => ?_) (fun h => ?_)
    · have hkH : k < H.length := by omega
      have hms := met0K_succ a hkH
      simp (implicitDefEqProofs := false) (dsimp := false) only [hkH, ↓atK_H, ↓atH_map, ↓aw_cond, ↓aw_seq, ↓aw_block, ↓aw_skip, ↓aw_reg, ↓Qseq_n, ↓ops_nil, ↓ops_cons, ↓eval_tmp, ↓eval_int, ↓put_some, ↓bK_b, ↓iK_i, ↓binE_i, ↓bi_geq, ↓ldK_q, ↓iaK_l, ↓op_move, ↓op_assign, ↓op_load, ↓op_bin, ↓op_ia, ↓cells_c, ↓hd_cons, ↓ty3, ↓sl28, List.getD_cons_zero, List.getD_cons_succ, List.set_cons_zero, List.set_cons_succ, List.length_cons, List.length_nil, Bool.true_and, Nat.reduceAdd, Nat.reduceSub, Nat.reduceMul, Nat.zero_add, Int.toNat_natCast, evK_go, reduceIte, Nat.reduceEqDiff, Nat.reduceLT, true_and, Int.zero_add, Int.natCast_nonneg]
      refine cdK_dec (fun h1 => ?_) (fun h1 => ?_)
      · obtain ⟨x, hx1, hx2, _⟩ := hkok.nat h (by omega)
        rw [if_neg (by omega), hx2, Int.toNat_natCast] at hms
        have hx64 : x < 64 := by omega
        have hwk := hw64 k
        rw [hx2]
        simp (implicitDefEqProofs := false) (dsimp := false) only [without_call, hwk, hx64, ↓nthK_H, ↓nthH_zero, ↓aw_reg, ↓Qseq_n, ↓Qblk_n, ↓ops_nil, ↓ops_cons, ↓eval_tmp, ↓eval_int, ↓eval_func, ↓put_some, ↓put_none, ↓binE_i, ↓bi_add, ↓in_i64, ↓ldK_p, ↓op_move, ↓op_load, ↓op_bin, ↓op_call, ↓op_store, isD_d, ↓fnK_f, ↓call_H, ↓callK_H, ↓allT_nil, ↓allT_cons, ↓td_d, ↓setBox_mk, ↓st_bx, ↓vcells_c, ↓one_i, ↓vone_d, ↓st_p, ↓ty87, List.getD_cons_zero, List.getD_cons_succ, List.set_cons_zero, List.set_cons_succ, List.append_nil, List.length_cons, List.length_nil, List.all_cons, List.all_nil, Bool.true_and, Bool.and_self, Bool.true_or, Nat.reduceAdd, Nat.reduceSub, Nat.reduceMul, Nat.zero_add, evK_go, reduceIte, decide_true, Nat.reduceEqDiff, Nat.reduceLT, and_self, true_and, Int.zero_add, Int.natCast_nonneg]
        (repeat refine OrH.l ?_)
        refine ⟨by omega, k + 1, by omega, by omega, ?_⟩
        refine Wkn.of [0, 1, 2] [] ?_
        simp (implicitDefEqProofs := false) (dsimp := false) only [hms, ↓vcells_c, ↓vcells_l, List.getD_cons_zero, List.getD_cons_succ, List.set_cons_zero, List.set_cons_succ, List.length_cons, List.length_nil, Bool.and_self, Nat.reduceAdd, Nat.reduceSub, Nat.reduceMul, Nat.zero_add, List.replicate, evK_go, reduceIte, Nat.reduceEqDiff, Nat.reduceLT, and_self, Int.zero_add, List.foldl_cons, List.foldl_nil, Int.cast_ofNat_Int, Int.natCast_add, slots, wkL_nil, wkL_cons, wkB_nil, wkB_cons, wkR_nil, wkV_j, wkV_d, wkV_p, frz_d, pK_z, pK_s, reduceCtorEq]
      · rw [if_pos (by omega)] at hms
        simp (implicitDefEqProofs := false) (dsimp := false) only [↓aw_skip, ↓aw_reg, ↓Qseq_n, ↓Qblk_n, ↓ops_nil, ↓ops_cons, ↓eval_tmp, ↓eval_int, ↓put_some, ↓binE_i, ↓bi_add, ↓in_i64, ↓op_move, ↓op_bin, List.getD_cons_zero, List.getD_cons_succ, List.set_cons_zero, List.set_cons_succ, Nat.reduceAdd, Nat.reduceSub, Nat.reduceMul, evK_go, reduceIte, Nat.reduceEqDiff, Nat.reduceLT]
        refine ⟨by omega, k + 1, by omega, by omega, ?_⟩
        refine Wkn.of [0, 1, 2] [] ?_
        simp (implicitDefEqProofs := false) (dsimp := false) only [hms, ↓vcells_c, ↓vcells_l, List.getD_cons_zero, List.getD_cons_succ, List.set_cons_zero, List.set_cons_succ, List.length_cons, List.length_nil, Bool.and_self, Nat.reduceAdd, Nat.reduceSub, Nat.reduceMul, Nat.zero_add, List.replicate, evK_go, reduceIte, Nat.reduceEqDiff, Nat.reduceLT, and_self, Int.zero_add, List.foldl_cons, List.foldl_nil, Int.cast_ofNat_Int, Int.natCast_add, slots, wkL_nil, wkL_cons, wkB_nil, wkB_cons, wkR_nil, wkV_j, wkV_d, wkV_p, frz_d, pK_z, pK_s, reduceCtorEq]
    · obtain rfl : k = b := by omega
      have hwk := hw64 k
      simp (implicitDefEqProofs := false) (dsimp := false) only [list_call, hwk, rflat_I, ↓nthK_H, ↓nthH_zero, ↓aw_seq, ↓aw_block, ↓aw_exit, ↓aw_loop, ↓aw_reg, ↓Qseq_n, ↓Qseq_x, ↓Qblk_x, ↓ops_nil, ↓ops_cons, ↓eval_tmp, ↓eval_func, ↓put_some, ↓put_none, ↓ldK_p, ↓op_load, ↓op_call, ↓op_alloc, ↓op_store, isD_d, ↓fnK_f, ↓call_H, ↓callK_H, ↓allT_nil, ↓allT_cons, ↓td_d, ↓addBox_mk, ↓addRow_mk, ↓setBox_mk, ↓st_bx, ↓st_rw, ↓vcells_c, ↓vcells_nl, ↓vcells_o, ↓vone_o, constV_n, ↓st_p, ↓ty28, ↓zb28, ↓ty87, List.getD_cons_zero, List.getD_cons_succ, List.set_cons_zero, List.set_cons_succ, List.cons_append, List.nil_append, List.append_nil, List.length_cons, List.length_nil, List.length_map, List.all_cons, List.all_nil, Bool.true_and, Bool.and_self, Bool.or_true, Nat.reduceAdd, Nat.reduceSub, Nat.reduceMul, Nat.zero_add, evK_go, reduceIte, decide_false, Nat.reduceEqDiff, Nat.reduceLT, and_self, true_and, Nat.lt_irrefl, Int.zero_add]
      (repeat refine OrH.l ?_)
      refine loopW (fun st : RM => { tm := slots 95 [(0, .d (I .i64 (a : Int))), (10, .d (.l (N.map U))), (11, .p 0 0), (12, .p 1 0), (13, .p 2 0), (16, .p 3 0)], bx := [.d (.l (H.map (I .i64))), .d (U st.s.met), .d (U st.s.over), .o 0 st.pre.length st.s.todo.length], rw := [some ⟨1, (st.pre ++ st.s.todo).map nD⟩] })
        (fun st => CI a k L H st.s ∧ Cl L st.s ∧ st.s.todo.length + (a - Go.Aw.cnt st.s.met) ≤ st.m ∧ cRun N H st.m st.s = F ∧ st.m ≤ a) (fun st => st.m) ⟨a, ⟨met0K a H k, 0, pts (met0K a H k)⟩, []⟩ ⟨c1, c2, c3, hfin, Nat.le_refl _⟩ ?_ ?_
      · refine Wkn.of [0, 1, 2, 3] [some 0] ?_
        simp (implicitDefEqProofs := false) (dsimp := false) only [ptsI, List.map_map, ↓vcells_c, ↓vcells_l, ↓vcells_o, List.getD_cons_zero, List.getD_cons_succ, List.set_cons_zero, List.set_cons_succ, List.nil_append, List.length_cons, List.length_nil, List.length_map, Bool.and_true, Bool.true_and, Bool.and_self, Nat.reduceAdd, Nat.reduceSub, Nat.reduceMul, Nat.zero_add, List.replicate, evK_go, reduceIte, Nat.reduceEqDiff, Nat.reduceLT, and_self, true_and, and_true, Int.zero_add, List.foldl_cons, List.foldl_nil, Int.cast_ofNat_Int, slots, wkL_nil, wkL_cons, wkB_nil, wkB_cons, wkR_nil, wkR_some, wkV_j, wkV_d, wkV_o, wkV_p, frz_d, oK_zs, pK_z, pK_s, reduceCtorEq, Option.some.injEq]
        rfl
      · rintro ⟨m, s, pre⟩ ⟨i1, i2, i3, i4, i5⟩
        simp only at i1 i2 i3 i4 i5
        obtain ⟨met, over, todo⟩ := s
        have hm64 : met < 2 ^ 64 := bits64 i1.metLt (by omega)
        have ho64 : over < 2 ^ 64 := bits64 i1.overLt (by omega)
        simp (implicitDefEqProofs := false) (dsimp := false) only [slots, ↓optK_some, ↓rwK_mk_, ↓nthK_H, ↓nthH_zero, ↓aw_cond, ↓aw_seq, ↓aw_reg, ↓Qseq_n, ↓ops_nil, ↓ops_cons, ↓eval_tmp, ↓eval_int, ↓put_some, ↓bK_b, ↓lenK_o, ↓binE_i, ↓bi_gtr, ↓ldK_p, ↓op_load, ↓op_bin, ↓op_len, ↓vcells_o, ↓ty28, ↓sl28, List.getD_cons_zero, List.getD_cons_succ, List.set_cons_zero, List.set_cons_succ, Nat.reduceAdd, Nat.reduceSub, Nat.reduceMul, List.replicate, evK_go, reduceIte, Nat.reduceEqDiff, Nat.reduceLT, List.foldl_cons, List.foldl_nil]
        cases todo with
        | nil =>
          have e0 : F = ⟨met, over, []⟩ := by
            rw [← i4]
            cases m with
            | zero => rfl
            | succ m => exact if_pos rfl
          refine cdK_dec (fun h1 => by simp at h1) (fun h1 => ?_)
          subst e0
          have hw0 : 2 ^ a - 1 < 2 ^ 64 := by
            have h1 := Nat.one_le_two_pow (n := a)
            have h2 : 2 ^ a ≤ 2 ^ 64 := Nat.pow_le_pow_right (by omega) (by omega)
            omega
          have hdw := dif_lt (n := met) hw0
          simp (implicitDefEqProofs := false) (dsimp := false) only [below_callQ, ha64, hm64, ho64, hw0, hdw, list_callDQ, eval_nilI, ↓nthK_H, ↓nthH_zero, ↓aw_seq, ↓aw_exit, ↓aw_ret, ↓aw_draw, ↓Qseq_n, ↓Qseq_x, ↓Qblk_x, ↓Qret_r, ↓eval_tmp, ↓eval_func, ↓put_some, ↓ev_move, ↓ev_assign, ↓ev_load, ↓ev_bin, ↓binE_i, ↓bi_andNot, ↓ldK_p, isD_d, ↓fnK_f, ↓callKQ_H, ↓allT_nil, ↓allT_cons, ↓td_d, ↓ret_3, ↓draw_H, ↓h_nil, ↓h_cons, ↓ldH_n, ↓q_call, ↓q_move, ↓q_assign, ↓q_load, ↓q_bin, ↓il_move, ↓il_assign, ↓il_load, ↓il_bin, ↓il_call, ↓vcells_c, ↓ty87, List.getD_cons_zero, List.getD_cons_succ, List.set_cons_zero, List.set_cons_succ, List.append_nil, List.length_nil, List.all_cons, List.all_nil, Bool.true_and, Bool.and_self, Bool.true_or, Nat.reduceAdd, Nat.reduceSub, Nat.reduceMul, evK_go, reduceIte, Nat.reduceEqDiff, Nat.reduceLT, and_self, true_and, Int.cast_ofNat_Int]
          refine OrH.l ⟨DrawH.of follows_mixed (by kernel_rfl), ?_⟩
          (repeat refine OrH.l ?_)
          simp (implicitDefEqProofs := false) (dsimp := false) only [nD_ints, ptsI, erD_0]
        | cons x t =>
          refine cdK_dec (fun h1 => ?_) (fun h1 => absurd h1 (by simp))
          have hst := hstep ⟨met, over, x :: t⟩ i1 i2 (by simp)
          have hxa : x < a := i1.metLt x (i1.todo x (by simp))
          have hxN : x < N.length := by omega
          have hnb := hlt _ (getD_mem hxN)
          have hd := dif_lt (n := over) hnb
          simp (implicitDefEqProofs := false) (dsimp := false) only [List.length_cons, List.map_append, List.map_cons, nD, hxN, hnb, ho64, each_callQ, ↓optK_some, ↓rwK_mk_, ↓atK_H, ↓atH_map, ↓atH_appmap, ↓nthK_H, ↓nthH_zero, ↓aw_seq, ↓aw_block, ↓aw_skip, ↓aw_rng, ↓aw_draw, ↓Qseq_n, ↓eval_tmp, ↓eval_int, ↓eval_func, ↓put_some, ↓iK_i, ↓ev_move, ↓ev_load, ↓ev_bin, ↓ev_ia, ↓binE_i, ↓bi_andNot, ↓ldK_q, ↓ldK_p, ↓ldK_e, ↓iaK_l, ↓iaK_o, isD_d, ↓fnK_f, ↓callKQ_H, ↓allT_nil, ↓allT_cons, ↓td_d, ↓draw_H, ↓h_nil, ↓h_cons, ↓ldH_n, ↓q_call, ↓q_move, ↓q_load, ↓q_bin, ↓q_ia, ↓il_move, ↓il_load, ↓il_bin, ↓il_ia, ↓il_call, ↓row_sz, ↓row_xs, ↓cells_c, ↓vcells_c, ↓vcells_o, ↓hd_cons, ↓ty3, ↓ty28, ↓sl28, ↓sl84, ↓ty87, List.getD_cons_zero, List.getD_cons_succ, List.set_cons_zero, List.set_cons_succ, List.append_nil, List.map_cons, List.length_cons, List.length_nil, List.all_cons, List.all_nil, Bool.true_and, Bool.and_self, Bool.true_or, Nat.reduceAdd, Nat.reduceSub, Nat.reduceMul, Nat.zero_add, Nat.add_zero, Int.toNat_natCast, Int.toNat_zero, evK_go, reduceIte, Nat.reduceEqDiff, Nat.reduceLT, and_self, true_and, Int.zero_add, Int.cast_ofNat_Int, Int.natCast_add, Int.natCast_nonneg]
          refine OrH.l ⟨DrawH.of follows_mixed (by kernel_rfl), ⟨by omega, by omega⟩, ?_⟩
          (repeat refine OrH.l ?_)
          have hcm : ∀ j ∈ pts (dif (N.getD x default) over), (x, j) ∈ L := fun j hj => by
            have h3 := ((pts_mem _ _).1 hj).2
            rw [dif_bit, Bool.and_eq_true] at h3
            exact hnx x j h3.1
          refine rangeW (slots 95 [(0, .d (I .i64 (a : Int))), (10, .d (.l (N.map U))), (11, .p 0 0), (12, .p 1 0), (13, .p 2 0), (16, .p 3 0), (63, .d (.f (.func 99) [.q [U (dif (N.getD x default) over)]]))])
            (fun st : RC => [.d (.l (H.map (I .i64))), .d (U st.met), .d (U st.over), .o 0 st.pre.length st.q.length]) (fun st : RC => [some ⟨1, (st.pre ++ st.q).map nD⟩])
            (fun ys st => ∃ P : List Nat, ys = P.map Int.ofNat ∧ (⟨st.met, st.over, st.q⟩ : CS) = P.foldl (cJ H) ⟨met, over, x :: t⟩ ∧ st.met < 2 ^ 64 ∧ st.over < 2 ^ 64 ∧ st.q.length ≤ t.length + 1 + P.length ∧ 1 ≤ st.q.length) ⟨met, over, pre, x :: t⟩
            (by simp [slots]) (each_iter _ hd) ?_ ⟨[], rfl, rfl, hm64, ho64, by simp, by simp⟩ ?_ ?_ ?_
          · simp (implicitDefEqProofs := false) (dsimp := false) only [slots, ↓eval_tmp, List.getD_cons_zero, List.getD_cons_succ, List.set_cons_zero, List.set_cons_succ, Nat.reduceAdd, Nat.reduceSub, Nat.reduceMul, List.replicate, evK_go, reduceIte, Nat.reduceEqDiff, Nat.reduceLT, List.foldl_cons, List.foldl_nil]
          · refine Wkn.of [0, 1, 2, 3] [some 0] ?_
            simp (implicitDefEqProofs := false) (dsimp := false) only [nD, List.map_append, List.map_cons, List.length_cons, ↓vcells_c, ↓vcells_l, ↓vcells_o, List.getD_cons_zero, List.getD_cons_succ, List.set_cons_zero, List.set_cons_succ, List.map_cons, List.length_cons, List.length_nil, Bool.and_self, Nat.reduceAdd, Nat.reduceSub, Nat.reduceMul, Nat.zero_add, List.replicate, evK_go, reduceIte, Nat.reduceEqDiff, Nat.reduceLT, and_self, Int.zero_add, List.foldl_cons, List.foldl_nil, slots, wkL_nil, wkL_cons, wkB_nil, wkB_cons, wkR_nil, wkR_some, wkV_j, wkV_d, wkV_o, wkV_p, frz_d, oK_zs, pK_z, pK_s, reduceCtorEq]
          · rintro ys y ⟨met', over', pre', q'⟩ hpx ⟨P, rfl, hP1, hm', ho', hq', hq1⟩
            obtain ⟨P', c, hP, rfl, hcc⟩ := prefix_map hpx
            obtain rfl : P = P' := ofNat_inj hP
            simp only at hP1 hm' ho' hq' hq1
            have hcb : c < k := (hs _ (hcm c (hcc.subset (by simp : c ∈ P ++ [c])))).2
            have hcH : c < H.length := by omega
            have hc64 : c < 64 := by omega
            have hPl : P.length + 1 ≤ 64 := by
              have h3 := hcc.length_le
              have h4 := pts_len (dif (N.getD x default) over)
              simp (implicitDefEqProofs := false) (dsimp := false) only [List.length_append, List.length_cons, List.length_nil] at h3
              omega
            have hq64 : t.length + 1 ≤ 64 := by simp (implicitDefEqProofs := false) (dsimp := false) only [List.length_cons] at i3; omega
            have hfold : (P ++ [c]).foldl (cJ H) ⟨met, over, x :: t⟩ = cJ H ⟨met', over', q'⟩ c := by rw [List.foldl_append, ← hP1]; rfl
            have hor : over' ||| 2 ^ c < 2 ^ 64 := Nat.or_lt_two_pow ho' (Nat.pow_lt_pow_right (by omega) hc64)
            simp (implicitDefEqProofs := false) (dsimp := false) only [slots, with_call, ho', hc64, hcH, ↓gdK_t, ↓gval_mk, ↓gvL_zero, ↓gvL_succ, ↓atK_H, ↓atH_map, ↓nthK_H, ↓nthH_zero, ↓aw_seq, ↓aw_block, ↓aw_reg, ↓Qseq_n, ↓ops_nil, ↓ops_cons, ↓ops_guard, ↓eval_tmp, ↓eval_int, ↓eval_func, ↓put_some, ↓put_none, ↓iK_i, ↓binE_i, ↓bi_geq, ↓ldK_q, ↓ldK_p, ↓iaK_l, ↓op_move, ↓op_assign, ↓op_load, ↓op_bin, ↓op_ia, ↓op_call, ↓op_store, isD_d, ↓fnK_f, ↓call_H, ↓callK_H, ↓allT_nil, ↓allT_cons, ↓td_d, ↓setBox_mk, ↓st_tm, ↓st_bx, ↓cells_c, ↓vcells_c, ↓vcells_l, ↓one_i, ↓vone_d, ↓st_p, ↓hd_cons, ↓Qn_n, ↓ty3, ↓ty28, ↓sl28, ↓ty87, List.getD_cons_zero, List.getD_cons_succ, List.set_cons_zero, List.set_cons_succ, List.append_nil, List.length_cons, List.length_nil, List.all_cons, List.all_nil, Bool.true_and, Bool.and_self, Bool.true_or, Nat.reduceAdd, Nat.reduceSub, Nat.reduceMul, Nat.zero_add, Int.toNat_natCast, List.replicate, evK_go, reduceIte, Nat.reduceEqDiff, Nat.reduceLT, and_self, true_and, Int.zero_add, List.foldl_cons, List.foldl_nil, Int.natCast_nonneg]
            refine OrH.l (OrH.l (cdK_dec (fun h3 => ?_) (fun h3 => ?_)))
            · obtain ⟨z, hz1, hz2, _⟩ := hkok.nat hcb (by omega)
              have hd3 : decide (0 ≤ H.getD c default) = true := decide_eq_true h3
              have hz64 : z < 64 := by omega
              have hz64' : z ≤ 64 := by omega
              rw [hz2] at hd3 ⊢
              simp (implicitDefEqProofs := false) (dsimp := false) only [hasS_call, hm', hz64', ↓cdK_true, ↓cdK_not, ↓gdK_t, ↓gval_mk, ↓gvL_zero, ↓gvL_succ, ↓nthK_H, ↓nthH_zero, ↓aw_cond, ↓Qseq_n, ↓ops_nil, ↓ops_cons, ↓ops_guard, ↓eval_tmp, ↓eval_func, ↓put_some, ↓bK_b, ↓ldK_p, ↓op_move, ↓op_pick, ↓op_load, ↓op_not, ↓op_call, isD_d, ↓fnK_f, ↓call_H, ↓callK_H, ↓allT_nil, ↓allT_cons, ↓td_d, ↓st_tm, ↓vcells_c, ↓ty87, List.getD_cons_zero, List.getD_cons_succ, List.set_cons_zero, List.set_cons_succ, List.append_nil, List.all_cons, List.all_nil, Bool.true_and, Bool.and_self, Bool.true_or, Nat.reduceAdd, Nat.reduceSub, Nat.reduceMul, evK_go, reduceIte, decide_true, Nat.reduceEqDiff, Nat.reduceLT, and_self, true_and, Int.natCast_nonneg]
              refine OrH.l (OrH.l (cdK_split (fun h4 => ?_) (fun h4 => ?_)))
              · have e : cJ H ⟨met', over', q'⟩ c = ⟨met', over' ||| 2 ^ c, q'⟩ := by
                  unfold cJ
                  rw [if_neg (by omega), if_pos (by rw [hz2, Int.toNat_natCast]; exact h4)]
                rw [e] at hfold
                simp (implicitDefEqProofs := false) (dsimp := false) only [↓aw_skip, ↓Qblk_n, ↓Qrd_n, ↓back_mk, Nat.reduceAdd, Nat.reduceSub, Nat.reduceMul, evK_go, reduceIte, Nat.reduceEqDiff, Nat.reduceLT]
                refine ⟨⟨met', over' ||| 2 ^ c, pre', q'⟩, ⟨P ++ [c], by simp, hfold.symm, hm', hor, by simp; omega, hq1⟩, ?_⟩
                refine Wkn.of [0, 1, 2, 3] [some 0] ?_
                simp (implicitDefEqProofs := false) (dsimp := false) only [↓vcells_c, ↓vcells_l, ↓vcells_o, List.getD_cons_zero, List.getD_cons_succ, List.set_cons_zero, List.set_cons_succ, List.length_cons, List.length_nil, Bool.and_self, Nat.reduceAdd, Nat.reduceSub, Nat.reduceMul, Nat.zero_add, List.replicate, evK_go, reduceIte, Nat.reduceEqDiff, Nat.reduceLT, and_self, Int.zero_add, List.foldl_cons, List.foldl_nil, slots, wkL_nil, wkL_cons, wkB_nil, wkB_cons, wkR_nil, wkR_some, wkV_j, wkV_d, wkV_o, wkV_p, frz_d, oK_zs, pK_z, pK_s, reduceCtorEq]
              · have e : cJ H ⟨met', over', q'⟩ c = ⟨met' ||| 2 ^ z, over' ||| 2 ^ c, q' ++ [z]⟩ := by
                  unfold cJ
                  rw [if_neg (by omega), hz2, Int.toNat_natCast, if_neg (by rw [h4]; decide)]
                rw [e] at hfold
                have hmz : met' ||| 2 ^ z < 2 ^ 64 := Nat.or_lt_two_pow hm' (Nat.pow_lt_pow_right (by omega) hz64)
                simp (implicitDefEqProofs := false) (dsimp := false) only [h4, with_call, hm', hz64, ↓optK_some, ↓rwK_mk_, ↓nthK_H, ↓nthH_zero, ↓aw_seq, ↓aw_reg, ↓Qseq_n, ↓Qblk_n, ↓ops_nil, ↓ops_cons, ↓eval_tmp, ↓eval_func, ↓put_some, ↓put_none, ↓dK_d, ↓ldK_p, ↓op_move, ↓op_load, ↓op_append, ↓op_call, ↓op_store, isD_d, ↓fnK_f, ↓call_H, ↓callK_H, ↓allT_nil, ↓allT_cons, ↓allD_nil, ↓allD_cons, ↓td_d, ↓setBox_mk, ↓app_mk, ↓st_bx, ↓row_sz, ↓row_xs, kill_d, kill_j, kill_p, kill_o, ↓cells_c, ↓vcells_c, ↓vcells_j, ↓vcells_o, ↓one_i, ↓vone_d, ↓vone_o, ↓st_p, ↓ap_, ↓ap_o, ↓src_l, ↓bs_, ↓op_bs, ↓bsL_f, ↓stored_mk, ↓sl_nil, ↓sl_cons, ↓st_store_t, ↓sT_move, ↓sT_load, ↓sT_bs, ↓sT_call, ↓beq_some, ↓vsz_int, ↓inO_1, ↓fm_nil, ↓fm_cons, ↓Qrd_n, ↓back_mk, ↓ty3, ↓zb3, ↓ty28, ↓sl28, ↓ty87, List.getD_cons_zero, List.getD_cons_succ, List.set_cons_zero, List.set_cons_succ, List.append_nil, List.map_cons, List.map_nil, List.length_cons, List.length_nil, List.length_map, List.all_cons, List.all_nil, Bool.true_and, Bool.and_self, Bool.true_or, Bool.or_false, Nat.reduceAdd, Nat.reduceSub, Nat.reduceMul, Nat.zero_add, evK_go, reduceIte, decide_false, Bool.not_false, Nat.reduceEqDiff, Nat.reduceLT, and_self, true_and, Int.zero_add]
                have edr : List.drop pre'.length (List.map nD pre' ++ List.map nD q') = List.map nD q' := drop_appmap _ _ _
                refine OrH.l (OrH.l ⟨by decide, ⟨by simp, by simp, by omega, by omega⟩, ⟨met' ||| 2 ^ z, over' ||| 2 ^ c, [], q' ++ [z]⟩, ⟨P ++ [c], by simp, hfold.symm, hmz, hor, by simp; omega, by simp⟩, ?_⟩)
                refine Wkn.of [0, 1, 2, 3] [some 0] ?_
                simp (implicitDefEqProofs := false) (dsimp := false) only [edr, nD, List.map_append, List.length_append, ↓vcells_c, ↓vcells_l, ↓vcells_o, List.getD_cons_zero, List.getD_cons_succ, List.set_cons_zero, List.set_cons_succ, List.nil_append, List.map_cons, List.map_nil, List.length_cons, List.length_nil, Bool.and_self, Nat.reduceAdd, Nat.reduceSub, Nat.reduceMul, Nat.zero_add, List.replicate, evK_go, reduceIte, Nat.reduceEqDiff, Nat.reduceLT, and_self, Int.zero_add, List.foldl_cons, List.foldl_nil, slots, wkL_nil, wkL_cons, wkB_nil, wkB_cons, wkR_nil, wkR_some, wkV_j, wkV_d, wkV_o, wkV_p, frz_d, oK_zs, pK_z, pK_s, reduceCtorEq]
            · have hd3 : decide (0 ≤ H.getD c default) = false := decide_eq_false h3
              have e : cJ H ⟨met', over', q'⟩ c = ⟨met', over' ||| 2 ^ c, q'⟩ := by
                unfold cJ
                rw [if_pos (by omega)]
              rw [e] at hfold
              simp (implicitDefEqProofs := false) (dsimp := false) only [hd3, ↓cdK_false, ↓gdK_t, ↓gval_mk, ↓gvL_zero, ↓gvL_succ, ↓aw_cond, ↓aw_skip, ↓Qseq_n, ↓Qblk_n, ↓ops_nil, ↓ops_cons, ↓ops_guard, ↓eval_tmp, ↓eval_bool, ↓put_some, ↓bK_b, ↓op_pick, ↓st_tm, ↓Qrd_n, ↓back_mk, List.getD_cons_zero, List.getD_cons_succ, List.set_cons_zero, List.set_cons_succ, Nat.reduceAdd, Nat.reduceSub, Nat.reduceMul, evK_go, reduceIte, Nat.reduceEqDiff, Nat.reduceLT]
              refine ⟨⟨met', over' ||| 2 ^ c, pre', q'⟩, ⟨P ++ [c], by simp, hfold.symm, hm', hor, by simp; omega, hq1⟩, ?_⟩
              refine Wkn.of [0, 1, 2, 3] [some 0] ?_
              simp (implicitDefEqProofs := false) (dsimp := false) only [↓vcells_c, ↓vcells_l, ↓vcells_o, List.getD_cons_zero, List.getD_cons_succ, List.set_cons_zero, List.set_cons_succ, List.length_cons, List.length_nil, Bool.and_self, Nat.reduceAdd, Nat.reduceSub, Nat.reduceMul, Nat.zero_add, List.replicate, evK_go, reduceIte, Nat.reduceEqDiff, Nat.reduceLT, and_self, Int.zero_add, List.foldl_cons, List.foldl_nil, slots, wkL_nil, wkL_cons, wkB_nil, wkB_cons, wkR_nil, wkR_some, wkV_j, wkV_d, wkV_o, wkV_p, frz_d, oK_zs, pK_z, pK_s, reduceCtorEq]
          · rintro ⟨met', over', pre', q'⟩ ⟨P, hP, hP1, hm', ho', hq', hq1⟩
            obtain rfl : pts (dif (N.getD x default) over) = P := ofNat_inj hP
            simp only at hP1 hm' ho' hq' hq1
            have hcs : cStep N H ⟨met, over, x :: t⟩ = ⟨met', over', q'.drop 1⟩ := by
              show (⟨(cIn N H ⟨met, over, x :: t⟩ x).met, (cIn N H ⟨met, over, x :: t⟩ x).over, (cIn N H ⟨met, over, x :: t⟩ x).todo.drop 1⟩ : CS) = _
              have : cIn N H ⟨met, over, x :: t⟩ x = ⟨met', over', q'⟩ := hP1.symm
              rw [this]
            rw [hcs] at hst
            simp (implicitDefEqProofs := false) (dsimp := false) only [slots, ↓optK_some, ↓rwK_mk_, ↓nthK_H, ↓nthH_zero, ↓aw_seq, ↓aw_reg, ↓Qseq_n, ↓Qblk_n, ↓ops_nil, ↓ops_cons, ↓eval_tmp, ↓eval_int, ↓put_some, ↓put_none, ↓iK_i, ↓optI_none, ↓optI_some, ↓ldK_p, ↓sliK_o, ↓op_load, ↓op_slice, ↓op_alloc, ↓op_store, ↓addBox_mk, ↓setBox_mk, ↓st_bx, ↓row_sz, ↓vcells_nl, ↓vcells_o, ↓vone_o, constV_n, ↓st_p, ↓ty3, ↓ty28, ↓sl28, ↓zb28, List.getD_cons_zero, List.getD_cons_succ, List.set_cons_zero, List.set_cons_succ, List.cons_append, List.nil_append, List.length_cons, List.length_nil, List.all_cons, List.all_nil, Bool.true_and, Bool.and_self, Nat.reduceAdd, Nat.reduceSub, Nat.reduceMul, Nat.zero_add, Int.toNat_one, List.replicate, evK_go, reduceIte, Nat.reduceEqDiff, Nat.reduceLT, and_self, true_and, Option.getD_none, Option.getD_some, Int.zero_add, List.foldl_cons, List.foldl_nil, Int.ofNat_le]
            obtain ⟨y, q'', rfl⟩ : ∃ y q'', q' = y :: q'' := by
              cases q' with
              | nil => simp at hq1
              | cons y q'' => exact ⟨y, q'', rfl⟩
            simp (implicitDefEqProofs := false) (dsimp := false) only [List.drop_succ_cons, List.drop_zero] at hst hcs
            obtain ⟨g1, g2, g3⟩ := hst
            simp (implicitDefEqProofs := false) (dsimp := false) only [List.length_cons] at g3 i3
            have g4 := g1.cnt
            simp only at g4
            cases m with
            | zero => omega
            | succ m =>
              have i6 : cRun N H m ⟨met', over', q''⟩ = F := by
                rw [← i4, ← hcs]
                show _ = if _ then _ else _
                rw [if_neg (by simp)]
              have i7 : t.length + 1 + (a - Go.Aw.cnt met) ≤ m + 1 := i3
              refine ⟨⟨by omega, by rw [List.length_cons]; omega, Nat.le_refl _⟩, ⟨m, ⟨met', over', q''⟩, pre' ++ [y]⟩, ⟨g1, g2, ?_, i6, by show m ≤ a; omega⟩, Nat.lt_succ_self m, ?_⟩
              · show q''.length + (a - Go.Aw.cnt met') ≤ m
                omega
              · refine Wkn.of [0, 1, 2, 4] [some 0] ?_
                simp (implicitDefEqProofs := false) (dsimp := false) only [List.length_append, List.length_cons, ↓vcells_c, ↓vcells_l, ↓vcells_o, List.getD_cons_zero, List.getD_cons_succ, List.length_cons, List.length_nil, Bool.and_true, Bool.true_and, Bool.and_self, Nat.reduceAdd, Nat.reduceSub, Nat.reduceMul, Nat.zero_add, evK_go, reduceIte, Nat.reduceEqDiff, Nat.reduceLT, and_self, true_and, and_true, Int.zero_add, Int.cast_ofNat_Int, Int.natCast_add, slots, wkL_nil, wkL_cons, wkB_nil, wkB_cons, wkR_nil, wkR_some, wkV_j, wkV_d, wkV_o, wkV_p, frz_d, oK_zs, pK_z, pK_s, vo_eq, reduceCtorEq, Option.some.injEq]
                exact ⟨by omega, by simp⟩
theorem cover_call (left right : Int) (l : List (Int × Int)) (pure : Bool) (σ : St) (dst : Option Tmp) (K : St → Prop) : CallH Try.prog 28 [I .i64 left, I .i64 right, .l (l.map lnD)] pure σ dst (.mk : Hid K) = OrH ((l.length < 2 ^ 62) ∧ (pure || D.flat (.t [.l ((covA left right l).map nD), .l ((covB left right l).map nD), erD (mchk left right l)])) = true ∧ evK (σ.put dst (.d (.t [.l ((covA left right l).map nD), .l ((covB left right l).map nD), erD (mchk left right l)]))) (.mk : Hid K)) (.mk : Hid (CallH Try.prog 28 [I .i64 left, I .i64 right, .l (l.map lnD)] pure σ dst (.mk : Hid K))) := CallH.eq (cover_spec left right l) pure σ dst K
theorem cover_callQ (left right : Int) (l : List (Int × Int)) (pure : Bool) (C : V → Prop) : CallQ Try.prog 28 [I .i64 left, I .i64 right, .l (l.map lnD)] pure (.mk : Hid C) = OrH ((l.length < 2 ^ 62) ∧ (pure || D.flat (.t [.l ((covA left right l).map nD), .l ((covB left right l).map nD), erD (mchk left right l)])) = true ∧ evK (V.d (.t [.l ((covA left right l).map nD), .l ((covB left right l).map nD), erD (mchk left right l)])) (.mk : Hid C)) (.mk : Hid (CallQ Try.prog 28 [I .i64 left, I .i64 right, .l (l.map lnD)] pure (.mk : Hid C))) := CallQ.eq (cover_spec left right l) pure C
def mfL : List (Int × Int) := [(0, 0), (1, 0)]
theorem mf1_spec  : FnD Try.prog 27 [I .i64 2, I .i64 1, .l [.s [I .i64 0, I .i64 0], .s [I .i64 1, I .i64 0]]] (.t [I .i64 1, erD 0]) := by
  have h := most_spec 2 1 mfL (by decide)
  rw [show mostR 2 1 mfL = 1 by decide +kernel, show mchk 2 1 mfL = 0 by decide +kernel] at h
  exact h
theorem mf1_call  (pure : Bool) (σ : St) (dst : Option Tmp) (K : St → Prop) : CallH Try.prog 27 [I .i64 2, I .i64 1, .l [.s [I .i64 0, I .i64 0], .s [I .i64 1, I .i64 0]]] pure σ dst (.mk : Hid K) = OrH ((pure || D.flat (.t [I .i64 1, erD 0])) = true ∧ evK (σ.put dst (.d (.t [I .i64 1, erD 0]))) (.mk : Hid K)) (.mk : Hid (CallH Try.prog 27 [I .i64 2, I .i64 1, .l [.s [I .i64 0, I .i64 0], .s [I .i64 1, I .i64 0]]] pure σ dst (.mk : Hid K))) := CallH.eq0 (mf1_spec ) pure σ dst K
theorem mf1_callQ  (pure : Bool) (C : V → Prop) : CallQ Try.prog 27 [I .i64 2, I .i64 1, .l [.s [I .i64 0, I .i64 0], .s [I .i64 1, I .i64 0]]] pure (.mk : Hid C) = OrH ((pure || D.flat (.t [I .i64 1, erD 0])) = true ∧ evK (V.d (.t [I .i64 1, erD 0])) (.mk : Hid C)) (.mk : Hid (CallQ Try.prog 27 [I .i64 2, I .i64 1, .l [.s [I .i64 0, I .i64 0], .s [I .i64 1, I .i64 0]]] pure (.mk : Hid C))) := CallQ.eq0 (mf1_spec ) pure C
theorem mf2_spec  : FnD Try.prog 28 [I .i64 2, I .i64 1, .l [.s [I .i64 0, I .i64 0], .s [I .i64 1, I .i64 0]]] (.t [.l [], .l [I .i64 0], erD 0]) := by
  have h := cover_spec 2 1 mfL (by decide)
  rw [show covA 2 1 mfL = [] by decide +kernel, show covB 2 1 mfL = [0] by decide +kernel, show mchk 2 1 mfL = 0 by decide +kernel] at h
  exact h
theorem mf2_call  (pure : Bool) (σ : St) (dst : Option Tmp) (K : St → Prop) : CallH Try.prog 28 [I .i64 2, I .i64 1, .l [.s [I .i64 0, I .i64 0], .s [I .i64 1, I .i64 0]]] pure σ dst (.mk : Hid K) = OrH ((pure || D.flat (.t [.l [], .l [I .i64 0], erD 0])) = true ∧ evK (σ.put dst (.d (.t [.l [], .l [I .i64 0], erD 0]))) (.mk : Hid K)) (.mk : Hid (CallH Try.prog 28 [I .i64 2, I .i64 1, .l [.s [I .i64 0, I .i64 0], .s [I .i64 1, I .i64 0]]] pure σ dst (.mk : Hid K))) := CallH.eq0 (mf2_spec ) pure σ dst K
theorem mf2_callQ  (pure : Bool) (C : V → Prop) : CallQ Try.prog 28 [I .i64 2, I .i64 1, .l [.s [I .i64 0, I .i64 0], .s [I .i64 1, I .i64 0]]] pure (.mk : Hid C) = OrH ((pure || D.flat (.t [.l [], .l [I .i64 0], erD 0])) = true ∧ evK (V.d (.t [.l [], .l [I .i64 0], erD 0])) (.mk : Hid C)) (.mk : Hid (CallQ Try.prog 28 [I .i64 2, I .i64 1, .l [.s [I .i64 0, I .i64 0], .s [I .i64 1, I .i64 0]]] pure (.mk : Hid C))) := CallQ.eq0 (mf2_spec ) pure C
theorem mf3_spec  : FnD Try.prog 44 [.l [I .i64 0], .l [I .i64 0]] (Bo true) := by
  have h := ints_spec [0] [0] (by decide)
  exact h
theorem mf3_call  (pure : Bool) (σ : St) (dst : Option Tmp) (K : St → Prop) : CallH Try.prog 44 [.l [I .i64 0], .l [I .i64 0]] pure σ dst (.mk : Hid K) = OrH ((pure || D.flat (Bo true)) = true ∧ evK (σ.put dst (.d (Bo true))) (.mk : Hid K)) (.mk : Hid (CallH Try.prog 44 [.l [I .i64 0], .l [I .i64 0]] pure σ dst (.mk : Hid K))) := CallH.eq0 (mf3_spec ) pure σ dst K
theorem mf3_callQ  (pure : Bool) (C : V → Prop) : CallQ Try.prog 44 [.l [I .i64 0], .l [I .i64 0]] pure (.mk : Hid C) = OrH ((pure || D.flat (Bo true)) = true ∧ evK (V.d (Bo true)) (.mk : Hid C)) (.mk : Hid (CallQ Try.prog 44 [.l [I .i64 0], .l [I .i64 0]] pure (.mk : Hid C))) := CallQ.eq0 (mf3_spec ) pure C
theorem mfact_spec  : FnD Try.prog 26 [] (Bo true) := by
  refine FnD.go Try.func26 rfl rfl Try.results26 Try.ntmps26 ?_
  simp (implicitDefEqProofs := false) (dsimp := false) only [↓aw_seq, ↓aw_reg, ↓Qseq_n, ↓ops_nil, ↓ops_cons, ↓eval_tmp, ↓eval_int, ↓eval_bool, ↓eval_func, ↓put_some, ↓dK_d, ↓op_move, ↓op_assign, ↓op_build, ↓op_call, isD_d, ↓fnK_f, ↓call_H, ↓callK_H, ↓allT_nil, ↓allT_cons, ↓allD_nil, ↓allD_cons, ↓td_d, ↓cells_c, ↓cells_s, ↓one_i, ↓bs_, ↓op_bs, ↓bsL_f, ↓stored_mk, ↓sl_nil, ↓sl_cons, ↓sT_assign, ↓sT_build, ↓sT_bs, ↓vsz_agg, ↓inO_2, ↓fm_nil, ↓fm_cons, ↓sl22, ↓ty35, ↓zb35, ↓bd35, List.getD_cons_zero, List.getD_cons_succ, List.set_cons_zero, List.set_cons_succ, List.cons_append, List.nil_append, List.append_nil, List.map_cons, List.map_nil, List.length_cons, List.length_nil, List.all_cons, List.all_nil, Bool.true_and, Bool.and_self, Bool.or_false, Nat.reduceAdd, Nat.reduceSub, Nat.reduceMul, Nat.zero_add, List.replicate, evK_go, reduceIte, Nat.reduceEqDiff, Nat.reduceLT, and_self, true_and, Int.zero_add]
  simp (implicitDefEqProofs := false) (dsimp := false) only [mf1_call, mf2_call, mf3_call, eval_nilI, ↓er_eql, ↓cdK_true, ↓gdK_t, ↓gval_mk, ↓gvL_zero, ↓gvL_succ, ↓nthK_H, ↓nthH_zero, ↓nthH_succ, ↓aw_seq, ↓aw_ret, ↓aw_reg, ↓Qseq_n, ↓Qret_r, ↓ops_nil, ↓ops_cons, ↓ops_guard, ↓eval_tmp, ↓eval_int, ↓eval_func, ↓put_some, ↓bK_b, ↓dK_d, ↓lenK_l, ↓tK_t, ↓binE_i, ↓bi_eql, ↓op_move, ↓op_assign, ↓op_pick, ↓op_bin, ↓op_extract, ↓op_len, ↓op_call, ↓orH_T, isD_d, ↓fnK_f, ↓call_H, ↓callK_H, ↓allT_nil, ↓allT_cons, ↓allD_nil, ↓allD_cons, ↓td_d, ↓ret_1, ↓st_tm, ↓cells_c, ↓one_i, ↓bs_, ↓op_bs, ↓bsL_f, ↓stored_mk, ↓sl_nil, ↓sl_cons, ↓sT_move, ↓sT_assign, ↓sT_pick, ↓sT_bin, ↓sT_bs, ↓sT_call, ↓vsz_int, ↓inO_1, ↓fm_nil, ↓fm_cons, ↓ty3, ↓zb3, ↓sl28, List.getD_cons_zero, List.getD_cons_succ, List.set_cons_zero, List.set_cons_succ, List.append_nil, List.map_cons, List.map_nil, List.length_cons, List.length_nil, List.all_cons, List.all_nil, Bool.and_true, Bool.true_and, Bool.and_self, Bool.true_or, Bool.or_false, Nat.reduceAdd, Nat.reduceSub, Nat.reduceMul, Nat.zero_add, evK_go, reduceIte, decide_true, Nat.reduceEqDiff, Nat.reduceLT, and_self, true_and, and_true, Int.zero_add, Int.cast_ofNat_Int]
  exact ⟨⟨rfl, by decide⟩, OrH.l (OrH.l (OrH.l (OrH.l (by decide))))⟩
theorem mfact_call  (pure : Bool) (σ : St) (dst : Option Tmp) (K : St → Prop) : CallH Try.prog 26 [] pure σ dst (.mk : Hid K) = OrH ((pure || D.flat (Bo true)) = true ∧ evK (σ.put dst (.d (Bo true))) (.mk : Hid K)) (.mk : Hid (CallH Try.prog 26 [] pure σ dst (.mk : Hid K))) := CallH.eq0 (mfact_spec ) pure σ dst K
theorem mfact_callQ  (pure : Bool) (C : V → Prop) : CallQ Try.prog 26 [] pure (.mk : Hid C) = OrH ((pure || D.flat (Bo true)) = true ∧ evK (V.d (Bo true)) (.mk : Hid C)) (.mk : Hid (CallQ Try.prog 26 [] pure (.mk : Hid C))) := CallQ.eq0 (mfact_spec ) pure C
end Go.Proofs

namespace Go.Proofs
open Go.Aw
set_option linter.unusedSimpArgs false
set_option maxRecDepth 10000
theorem t_flat (n e : Int) : D.flat (.t [I .i64 n, erD e]) = true := by unfold erD; split <;> rfl
theorem most_mn {left right : Int} {l : List (Int × Int)} (h : mchk left right l = 0) : MN (natL l) (mostR left right l) := by
  have ok := mchk_ok h
  rw [show mostR left right l = mostK (kuhn left.toNat right.toNat (natL l)) from if_pos h]
  exact most_MN ok.sides (by have := ok.lhi; omega) (by have := ok.rhi; omega)
theorem most_le {left right : Int} {l : List (Int × Int)} (h : mchk left right l = 0) : mostR left right l ≤ left.toNat ∧ mostR left right l ≤ right.toNat := by
  have ok := mchk_ok h
  obtain ⟨⟨M, h1, h2⟩, _⟩ := most_mn h
  have a := pig (M := List.range left.toNat) h1.fst (fun x hx => by
    obtain ⟨p, hp, rfl⟩ := List.mem_map.1 hx
    simpa using (ok.sides _ (h1.sub p hp)).1)
  have b := pig (M := List.range right.toNat) h1.snd (fun x hx => by
    obtain ⟨p, hp, rfl⟩ := List.mem_map.1 hx
    simpa using (ok.sides _ (h1.sub p hp)).2)
  simp (implicitDefEqProofs := false) (dsimp := false) only [List.length_map, List.length_range] at a b
  omega
theorem mchk_back {left right : Int} {l : List (Int × Int)} : mchk right left (backI l) = 0 ↔ mchk left right l = 0 := by
  rw [mchk_iff, mchk_iff]
  have hl : (backI l).length = l.length := by simp [backI]
  rw [hl]
  have hm : ∀ p, p ∈ backI l ↔ flipI p ∈ l := fun p => by
    unfold backI
    rw [List.mem_map]
    constructor
    · rintro ⟨q, hq, rfl⟩; simpa [flipI] using hq
    · intro h; exact ⟨flipI p, by simpa using h, rfl⟩
  constructor
  · rintro ⟨⟨h1, h2⟩, h3, h4⟩
    refine ⟨⟨h2, h1⟩, h3, fun p hp => ?_⟩
    have := h4 (flipI p) ((hm _).2 hp)
    exact ⟨this.2, this.1⟩
  · rintro ⟨⟨h1, h2⟩, h3, h4⟩
    refine ⟨⟨h2, h1⟩, h3, fun p hp => ?_⟩
    have := h4 (flipI p) ((hm _).1 hp)
    exact ⟨this.2, this.1⟩
theorem most_back {left right : Int} {l : List (Int × Int)} (h : mchk left right l = 0) : mostR right left (backI l) = mostR left right l := by
  have h1 := most_mn h
  have h2 := most_mn (mchk_back.2 h)
  rw [natL_back] at h2
  exact h2.unique (h1.flip fun a b => by rw [back_mem, flip_mem])
theorem most_more {left right : Int} {l : List (Int × Int)} {p : Int × Int} (h : mchk left right l = 0) (h2 : mchk left right (l ++ [p]) = 0) : mostR left right (l ++ [p]) = mostR left right l ∨ mostR left right (l ++ [p]) = mostR left right l + 1 := by
  refine (most_mn h).more (most_mn h2) (e := natP p) fun q => ?_
  unfold natL
  simp
theorem mchk_more {left right : Int} {l : List (Int × Int)} {p : Int × Int} (h : mchk left right l = 0) (h2 : mchk left right (l ++ [p]) ≠ 0) : l.length = 24 ∨ inB p.1 0 (left - 1) = false ∨ inB p.2 0 (right - 1) = false := by
  refine Classical.byContradiction fun hno => h2 ?_
  rw [not_or, not_or, Bool.not_eq_false, Bool.not_eq_false, inB_iff, inB_iff] at hno
  rw [mchk_iff] at h ⊢
  refine ⟨h.1, by simp; omega, fun q hq => ?_⟩
  rcases List.mem_append.1 hq with hq | hq
  · exact h.2.2 q hq
  · rw [List.mem_singleton.1 hq]; exact ⟨hno.2.1, hno.2.2⟩
end Go.Proofs

namespace Go.Proofs
open Go.Aw
set_option linter.unusedSimpArgs false
set_option maxRecDepth 10000
theorem deepR_len {n : Int} {l : List (Int × Int)} (h : topoE n l = 0) : (deepR n l).length = n.toNat ∧ 1 ≤ n.toNat ∧ n.toNat ≤ 8 ∧ (∀ i, (deepR n l).getD i default ≤ 1000) := by
  obtain ⟨hchk, o, ho⟩ := topoE_zero h
  have ok := chk_ok hchk
  have ht : topoL n l = o := by unfold topoL; rw [if_pos hchk, ho]; rfl
  have hTI := topo_some (by have := ok.hi; omega) ok.good ho
  have hs := deep_spec (by have := ok.hi; omega) ok.good hTI
  rw [show deepR n l = deepS n.toNat (natL l) (topoL n l) from if_pos h, ht]
  refine ⟨hs.1, ok.lo, ok.hi, fun i => ?_⟩
  rcases Nat.lt_or_ge i n.toNat with hi | hi
  · have := deep_lt ok.good hTI hs.2 hi
    have := ok.hi
    omega
  · rw [List.getD_eq_getElem?_getD, List.getElem?_eq_none (by rw [hs.1]; exact hi)]
    exact Nat.zero_le _
def longR (n : Int) (l : List (Int × Int)) : Nat := if topoE n l = 0 then maxN (deepR n l) + 1 else 0
theorem longest_spec (n : Int) (l : List (Int × Int)) (hpre : l.length < 2 ^ 62) : FnD Try.prog 65 [I .i64 n, .l (l.map lnD)] (.t [I .i64 (longR n l : Nat), erD (topoE n l)]) := by
  refine FnD.go Try.func65 rfl rfl Try.results65 Try.ntmps65 ?_
  simp (implicitDefEqProofs := false) (dsimp := false) only [↓aw_seq, ↓aw_reg, ↓Qseq_n, ↓ops_nil, ↓ops_cons, ↓eval_tmp, ↓eval_int, ↓eval_func, ↓put_some, ↓op_move, ↓op_assign, ↓op_call, isD_d, ↓fnK_f, ↓call_H, ↓callK_H, ↓allT_nil, ↓allT_cons, ↓td_d, List.getD_cons_zero, List.getD_cons_succ, List.set_cons_zero, List.set_cons_succ, List.cons_append, List.nil_append, List.append_nil, List.map_cons, List.map_nil, List.length_cons, List.length_nil, List.all_cons, List.all_nil, Bool.and_self, Nat.reduceAdd, Nat.reduceSub, Nat.reduceMul, Nat.zero_add, List.replicate, evK_go, reduceIte, Nat.reduceEqDiff, Nat.reduceLT, and_self, Int.zero_add]
  simp (implicitDefEqProofs := false) (dsimp := false) only [deepw_call, hpre, eval_nilI, ↓er_neq, ↓cdK_not, ↓nthK_H, ↓nthH_zero, ↓nthH_succ, ↓aw_cond, ↓aw_seq, ↓aw_reg, ↓Qseq_n, ↓ops_nil, ↓ops_cons, ↓eval_tmp, ↓put_some, ↓bK_b, ↓tK_t, ↓op_move, ↓op_assign, ↓op_bin, ↓op_extract, List.getD_cons_zero, List.getD_cons_succ, List.set_cons_zero, List.set_cons_succ, Bool.true_and, Bool.true_or, Nat.reduceAdd, Nat.reduceSub, Nat.reduceMul, evK_go, reduceIte, Nat.reduceEqDiff, Nat.reduceLT, true_and]
  (repeat refine OrH.l ?_)
  refine cdK_dec (fun hc => ?_) (fun hc => ?_)
  rotate_left
  · have e : longR n l = 0 := if_neg hc
    simp (implicitDefEqProofs := false) (dsimp := false) only [e, hc, ↓aw_seq, ↓aw_ret, ↓aw_reg, ↓Qseq_n, ↓Qseq_r, ↓Qret_r, ↓ops_nil, ↓ops_cons, ↓eval_tmp, ↓eval_int, ↓put_some, ↓op_move, ↓op_assign, ↓td_d, ↓ret_2, List.getD_cons_zero, List.getD_cons_succ, List.set_cons_zero, List.set_cons_succ, Nat.reduceAdd, Nat.reduceSub, Nat.reduceMul, evK_go, reduceIte, decide_false, Bool.not_false, Nat.reduceEqDiff, Nat.reduceLT, Int.cast_ofNat_Int]
  obtain ⟨h1, h2, h3, h4⟩ := deepR_len hc
  have hp : 0 < (deepR n l).length ∧ (deepR n l).length < 2 ^ 62 := by omega
  obtain ⟨h5, h6⟩ := maxN_spec hp.1
  have h7 : maxN (deepR n l) ≤ 1000 := by
    obtain ⟨i, hi, e⟩ := List.mem_iff_getElem.1 h5
    have := h4 i
    rw [List.getD_eq_getElem?_getD, List.getElem?_eq_getElem hi, Option.getD_some, e] at this
    exact this
  rw [show longR n l = maxN (deepR n l) + 1 from if_pos hc, hc]
  simp (implicitDefEqProofs := false) (dsimp := false) only [slmax_call, hp, eval_nilI, ↓aw_seq, ↓aw_ret, ↓aw_skip, ↓aw_reg, ↓Qseq_n, ↓Qret_r, ↓ops_nil, ↓ops_cons, ↓eval_tmp, ↓eval_int, ↓eval_func, ↓put_some, ↓binE_i, ↓bi_add, ↓in_i64, ↓op_move, ↓op_assign, ↓op_bin, ↓op_call, isD_d, ↓fnK_f, ↓call_H, ↓callK_H, ↓allT_nil, ↓allT_cons, ↓td_d, ↓ret_2, List.getD_cons_zero, List.getD_cons_succ, List.set_cons_zero, List.set_cons_succ, List.append_nil, List.all_cons, List.all_nil, Bool.true_and, Bool.and_self, Bool.true_or, Nat.reduceAdd, Nat.reduceSub, Nat.reduceMul, evK_go, reduceIte, decide_true, Bool.not_true, Nat.reduceEqDiff, Nat.reduceLT, and_self, true_and, Int.cast_ofNat_Int, Int.natCast_add]
  (repeat refine OrH.l ?_)
  exact ⟨by omega, by rw [erD_0]⟩
theorem longest_call (n : Int) (l : List (Int × Int)) (pure : Bool) (σ : St) (dst : Option Tmp) (K : St → Prop) : CallH Try.prog 65 [I .i64 n, .l (l.map lnD)] pure σ dst (.mk : Hid K) = OrH ((l.length < 2 ^ 62) ∧ (pure || D.flat (.t [I .i64 (longR n l : Nat), erD (topoE n l)])) = true ∧ evK (σ.put dst (.d (.t [I .i64 (longR n l : Nat), erD (topoE n l)]))) (.mk : Hid K)) (.mk : Hid (CallH Try.prog 65 [I .i64 n, .l (l.map lnD)] pure σ dst (.mk : Hid K))) := CallH.eq (longest_spec n l) pure σ dst K
theorem longest_callQ (n : Int) (l : List (Int × Int)) (pure : Bool) (C : V → Prop) : CallQ Try.prog 65 [I .i64 n, .l (l.map lnD)] pure (.mk : Hid C) = OrH ((l.length < 2 ^ 62) ∧ (pure || D.flat (.t [I .i64 (longR n l : Nat), erD (topoE n l)])) = true ∧ evK (V.d (.t [I .i64 (longR n l : Nat), erD (topoE n l)])) (.mk : Hid C)) (.mk : Hid (CallQ Try.prog 65 [I .i64 n, .l (l.map lnD)] pure (.mk : Hid C))) := CallQ.eq (longest_spec n l) pure C
/-- Where ways go, as lines. -/
def prI (M : List (List Int)) (k : Nat) : List (Int × Int) := (List.range k).flatMap fun a => (M.getD a default).map fun b => ((a : Int), b)
def prJ (M : List (List Int)) (k j : Nat) : List (Int × Int) := prI M k ++ ((M.getD k default).take j).map fun b => ((k : Int), b)
theorem prI_succ (M : List (List Int)) (k : Nat) : prI M (k + 1) = prJ M k (M.getD k default).length := by
  unfold prI prJ
  rw [List.range_succ, List.flatMap_append, List.take_length]
  simp [prI]
theorem prJ_zero (M : List (List Int)) (k : Nat) : prJ M k 0 = prI M k := by simp [prJ]
theorem prJ_succ (M : List (List Int)) {k j : Nat} (h : j < (M.getD k default).length) : prJ M k (j + 1) = prJ M k j ++ [((k : Int), (M.getD k default).getD j default)] := by
  unfold prJ
  rw [take_succ_getD h]
  simp
theorem prI_len {M : List (List Int)} (h : ∀ i : Nat, (M.getD i default).length ≤ 64) (k : Nat) : (prI M k).length ≤ 64 * k := by
  induction k with
  | zero => simp [prI]
  | succ k ih =>
    rw [prI_succ]
    unfold prJ
    rw [List.length_append, List.length_map, List.length_take]
    have := h k
    omega
def warR (n : Nat) (l : List (Nat × Nat)) : List (Nat × Nat) := (List.range n).flatMap fun i => (pts ((war n l).getD i default)).map fun j => (i, j)
theorem warR_nodup (n : Nat) (l : List (Nat × Nat)) : (warR n l).Nodup := by
  unfold warR
  rw [List.Nodup, List.pairwise_flatMap]
  refine ⟨fun i _ => ?_, ?_⟩
  · rw [List.pairwise_map]
    exact (pts_nodup _).imp fun h e => h (by simpa using e)
  · refine List.nodup_range.imp fun h p hp q hq e => ?_
    obtain ⟨x, _, rfl⟩ := List.mem_map.1 hp
    obtain ⟨y, _, e'⟩ := List.mem_map.1 hq
    rw [← e'] at e
    cases e
    exact h rfl
theorem warR_mem {n : Nat} {l : List (Nat × Nat)} (hn : n ≤ 64) (hg : Good n l) (a b : Nat) : (a, b) ∈ warR n l ↔ Path1 l a b := by
  unfold warR
  rw [List.mem_flatMap]
  constructor
  · rintro ⟨i, _, h⟩
    obtain ⟨j, hj, e⟩ := List.mem_map.1 h
    cases e
    exact (war_bit hg _ _).1 ((pts_mem _ _).1 hj).2
  · intro h
    have := h.lt hg
    exact ⟨a, by simpa using this.1, List.mem_map.2 ⟨b, (pts_mem _ _).2 ⟨by omega, (war_bit hg _ _).2 h⟩, rfl⟩⟩
theorem warR_len {n : Nat} {l : List (Nat × Nat)} (hn : n ≤ 64) (hg : Good n l) (hr : ∀ i, ¬ Path1 l i i) : 2 * (warR n l).length ≤ n * n := by
  have hnd : (warR n l ++ (warR n l).map flip).Nodup := by
    rw [List.nodup_append]
    refine ⟨warR_nodup n l, ?_, fun p hp q hq e => ?_⟩
    · have := warR_nodup n l
      unfold List.Nodup at this ⊢
      rw [List.pairwise_map]
      exact this.imp fun {a b} h e => h (by
        have e1 := congrArg Prod.fst e
        have e2 := congrArg Prod.snd e
        simp (implicitDefEqProofs := false) (dsimp := false) only [flip] at e1 e2
        exact Prod.ext e2 e1)
    · subst e
      obtain ⟨a, b⟩ := p
      rw [flip_mem, warR_mem hn hg] at hq
      rw [warR_mem hn hg] at hp
      exact hr a (hp.trans hq.path)
  have := pig (M := (List.range n).flatMap fun i => (List.range n).map fun j => (i, j)) hnd (fun p hp => by
    obtain ⟨a, b⟩ := p
    have hlt : a < n ∧ b < n := by
      rcases List.mem_append.1 hp with h | h
      · exact ((warR_mem hn hg a b).1 h).lt hg
      · rw [flip_mem, warR_mem hn hg] at h
        exact (h.lt hg).symm
    exact List.mem_flatMap.2 ⟨a, by simpa using hlt.1, List.mem_map.2 ⟨b, by simpa using hlt.2, rfl⟩⟩)
  have e : ((List.range n).flatMap fun i => (List.range n).map fun j => (i, j)).length = n * n := by
    rw [List.length_flatMap]
    simp [List.map_const']
  rw [e, List.length_append, List.length_map] at this
  omega
theorem prI_nat {n : Int} {l : List (Int × Int)} (hc : chk n l = 0) : natL (prI (closeAll n l) n.toNat) = warR n.toNat (natL l) := by
  have e : closeAll n l = (war n.toNat (natL l)).map ptsI := if_pos hc
  unfold natL prI warR
  rw [e, List.map_flatMap]
  congr 1
  funext a
  rw [mapP_get, List.map_map]
  unfold ptsI
  rw [List.map_map]
  rfl
theorem topo_noring {n : Int} {l : List (Int × Int)} (h : topoE n l = 0) (i : Nat) : ¬ Path1 (natL l) i i := fun hp => by
  obtain ⟨hchk, o, ho⟩ := topoE_zero h
  have ok := chk_ok hchk
  have := (topo_some (by have := ok.hi; omega) ok.good ho).path ok.good hp
  omega
theorem prI_chk {n : Int} {l : List (Int × Int)} (h : topoE n l = 0) (h6 : n ≤ 6) : mchk n n (prI (closeAll n l) n.toNat) = 0 := by
  obtain ⟨hchk, o, ho⟩ := topoE_zero h
  have ok := chk_ok hchk
  have cw := closeW hchk
  have n0 := ok.n0
  rw [mchk_iff]
  refine ⟨⟨⟨by omega, h6⟩, by omega, h6⟩, ?_, fun p hp => ?_⟩
  · have h1 := warR_len (n := n.toNat) (l := natL l) (by have := ok.hi; omega) ok.good (topo_noring h)
    have h2 := congrArg List.length (prI_nat hchk)
    rw [natL_len] at h2
    have h3 : n.toNat * n.toNat ≤ 6 * 6 := Nat.mul_le_mul (by omega) (by omega)
    omega
  · unfold prI at hp
    obtain ⟨a, ha, h1⟩ := List.mem_flatMap.1 hp
    obtain ⟨b, hb, rfl⟩ := List.mem_map.1 h1
    obtain ⟨c, rfl, hc, _⟩ := cw.pt a b hb
    have ha : a < n.toNat := by simpa using ha
    simp only
    omega
def chainE (n : Int) (l : List (Int × Int)) : Int := if topoE n l = 0 then (if 6 < n then 4 else 0) else topoE n l
def rowsR (n : Int) (l : List (Int × Int)) : Int := if chainE n l = 0 then n - (mostR n n (prI (closeAll n l) n.toNat) : Nat) else 0
theorem rows_spec (n : Int) (l : List (Int × Int)) (hpre : l.length < 2 ^ 62) : FnD Try.prog 63 [I .i64 n, .l (l.map lnD)] (.t [I .i64 (rowsR n l), erD (chainE n l)]) := by
  refine FnD.go Try.func63 rfl rfl Try.results63 Try.ntmps63 ?_
  simp (implicitDefEqProofs := false) (dsimp := false) only [↓aw_seq, ↓aw_reg, ↓Qseq_n, ↓ops_nil, ↓ops_cons, ↓eval_tmp, ↓eval_int, ↓eval_func, ↓put_some, ↓op_move, ↓op_assign, ↓op_call, isD_d, ↓fnK_f, ↓call_H, ↓callK_H, ↓allT_nil, ↓allT_cons, ↓td_d, List.getD_cons_zero, List.getD_cons_succ, List.set_cons_zero, List.set_cons_succ, List.cons_append, List.nil_append, List.append_nil, List.map_cons, List.map_nil, List.length_cons, List.length_nil, List.all_cons, List.all_nil, Bool.and_self, Nat.reduceAdd, Nat.reduceSub, Nat.reduceMul, Nat.zero_add, List.replicate, evK_go, reduceIte, Nat.reduceEqDiff, Nat.reduceLT, and_self, Int.zero_add]
  simp (implicitDefEqProofs := false) (dsimp := false) only [order_call, hpre, eval_nilI, ↓er_neq, ↓cdK_not, ↓nthK_H, ↓nthH_zero, ↓nthH_succ, ↓aw_cond, ↓aw_seq, ↓aw_reg, ↓Qseq_n, ↓ops_nil, ↓ops_cons, ↓eval_tmp, ↓put_some, ↓bK_b, ↓tK_t, ↓op_move, ↓op_assign, ↓op_bin, ↓op_extract, List.getD_cons_zero, List.getD_cons_succ, List.set_cons_zero, List.set_cons_succ, Bool.true_and, Bool.true_or, Nat.reduceAdd, Nat.reduceSub, Nat.reduceMul, evK_go, reduceIte, Nat.reduceEqDiff, Nat.reduceLT, true_and]
  (repeat refine OrH.l ?_)
  refine cdK_dec (fun hc => ?_) (fun hc => ?_)
  rotate_left
  · have e : chainE n l = topoE n l := if_neg hc
    have e2 : rowsR n l = 0 := if_neg (by rw [e]; exact hc)
    simp (implicitDefEqProofs := false) (dsimp := false) only [e, e2, hc, ↓aw_seq, ↓aw_ret, ↓aw_reg, ↓Qseq_n, ↓Qseq_r, ↓Qret_r, ↓ops_nil, ↓ops_cons, ↓eval_tmp, ↓eval_int, ↓put_some, ↓op_move, ↓op_assign, ↓td_d, ↓ret_2, List.getD_cons_zero, List.getD_cons_succ, List.set_cons_zero, List.set_cons_succ, Nat.reduceAdd, Nat.reduceSub, Nat.reduceMul, evK_go, reduceIte, decide_false, Bool.not_false, Nat.reduceEqDiff, Nat.reduceLT]
  obtain ⟨hchk, o, ho⟩ := topoE_zero hc
  simp (implicitDefEqProofs := false) (dsimp := false) only [↓aw_cond, ↓aw_seq, ↓aw_skip, ↓aw_reg, ↓Qseq_n, ↓ops_nil, ↓ops_cons, ↓eval_tmp, ↓eval_int, ↓put_some, ↓bK_b, ↓binE_i, ↓bi_gtr, ↓op_move, ↓op_bin, List.getD_cons_zero, List.getD_cons_succ, List.set_cons_zero, List.set_cons_succ, Nat.reduceAdd, Nat.reduceSub, Nat.reduceMul, evK_go, reduceIte, Nat.reduceEqDiff, Nat.reduceLT]
  refine cdK_dec (fun h6 => ?_) (fun h6 => ?_)
  · have e : chainE n l = 4 := by unfold chainE; rw [if_pos hc, if_pos (by omega)]
    have e2 : rowsR n l = 0 := if_neg (by rw [e]; decide)
    simp (implicitDefEqProofs := false) (dsimp := false) only [e, e2, nc97, erD_4, ↓aw_seq, ↓aw_ret, ↓aw_reg, ↓Qseq_n, ↓Qseq_r, ↓Qret_r, ↓ops_nil, ↓ops_cons, ↓eval_tmp, ↓eval_int, ↓put_some, ↓vK_c, ↓op_assign, ↓op_iface, ↓td_d, ↓ret_2, ↓nc97, List.getD_cons_zero, List.getD_cons_succ, List.set_cons_zero, List.set_cons_succ, Bool.and_self, Nat.reduceAdd, Nat.reduceSub, Nat.reduceMul, evK_go, reduceIte, Nat.reduceEqDiff, Nat.reduceLT, and_self]
  have e : chainE n l = 0 := by unfold chainE; rw [if_pos hc, if_neg (by omega)]
  rw [show rowsR n l = n - (mostR n n (prI (closeAll n l) n.toNat) : Nat) from if_pos e, e]
  have hmc := prI_chk hc (by omega)
  have cw := closeW hchk
  have hml := most_le hmc
  have ok := chk_ok hchk
  have n0 := ok.n0
  have h8 := ok.hi
  simp (implicitDefEqProofs := false) (dsimp := false) only [call_call, hpre, hchk, eval_nilI, ↓er_neq, ↓cdK_false, ↓nthK_H, ↓nthH_zero, ↓nthH_succ, ↓aw_cond, ↓aw_seq, ↓aw_block, ↓aw_skip, ↓aw_loop, ↓aw_reg, ↓Qseq_n, ↓ops_nil, ↓ops_cons, ↓eval_tmp, ↓eval_int, ↓eval_nil, ↓eval_func, ↓put_some, ↓bK_b, ↓lenK_l, ↓tK_t, ↓op_move, ↓op_assign, ↓op_bin, ↓op_extract, ↓op_len, ↓op_call, isD_d, ↓fnK_f, ↓call_H, ↓callK_H, ↓allT_nil, ↓allT_cons, ↓td_d, ↓sl44, List.getD_cons_zero, List.getD_cons_succ, List.set_cons_zero, List.set_cons_succ, List.append_nil, List.length_map, List.all_cons, List.all_nil, Bool.true_and, Bool.and_self, Bool.true_or, Nat.reduceAdd, Nat.reduceSub, Nat.reduceMul, evK_go, reduceIte, decide_true, Bool.not_true, Nat.reduceEqDiff, Nat.reduceLT, and_self, true_and]
  generalize closeAll n l = M at *
  generalize hm : n.toNat = m at *
  have hMl := cw.len
  have hMs := cw.sz
  simp (implicitDefEqProofs := false) (dsimp := false) only [hMl]
  (repeat refine OrH.l ?_)
  refine loopW (fun i : Nat => { tm := slots 71 [(0, .d (I .i64 n)), (10, .o 0 0 (prI M i).length), (37, .d (.l (M.map liD))), (38, .d (I .i64 (m : Int))), (39, .d (I .i64 i))], bx := [], rw := [some ⟨2, (prI M i).map lnD⟩] })
    (fun i => i ≤ m) (fun i => m - i) 0 (by simp) ?_ ?_
  · refine Wkn.of [] [none] ?_
    simp (implicitDefEqProofs := false) (dsimp := false) only [prI, List.range_zero, List.flatMap_nil, ↓row_xs, List.set_cons_zero, List.set_cons_succ, List.map_nil, List.length_nil, Bool.and_self, Nat.reduceAdd, Nat.reduceSub, Nat.reduceMul, List.replicate, evK_go, reduceIte, Nat.reduceEqDiff, Nat.reduceLT, and_self, List.foldl_cons, List.foldl_nil, Int.cast_ofNat_Int, slots, wkL_nil, wkL_cons, wkB_nil, wkR_nil, wkR_new, wkV_j, wkV_d, nlK_nl, wkV_o, frz_d, oK_zn, reduceCtorEq]
  · intro i hi
    have hil := prI_len hMs i
    have hsi := hMs i
    simp (implicitDefEqProofs := false) (dsimp := false) only [slots, ↓aw_cond, ↓aw_seq, ↓aw_reg, ↓Qseq_n, ↓ops_nil, ↓ops_cons, ↓eval_tmp, ↓put_some, ↓bK_b, ↓binE_i, ↓bi_lss, ↓op_bin, List.getD_cons_zero, List.getD_cons_succ, List.set_cons_zero, List.set_cons_succ, Nat.reduceAdd, Nat.reduceSub, Nat.reduceMul, List.replicate, evK_go, reduceIte, Nat.reduceEqDiff, Nat.reduceLT, List.foldl_cons, List.foldl_nil, Int.ofNat_lt]
    refine cdK_dec (fun h => ?_) (fun h => ?_)
    · have hiM : i < M.length := by omega
      simp (implicitDefEqProofs := false) (dsimp := false) only [h, hiM, liD, ↓atK_H, ↓atH_map, ↓aw_seq, ↓aw_block, ↓aw_skip, ↓aw_loop, ↓aw_reg, ↓Qseq_n, ↓ops_nil, ↓ops_cons, ↓eval_tmp, ↓eval_int, ↓put_some, ↓iK_i, ↓lenK_l, ↓ldK_q, ↓iaK_l, ↓op_move, ↓op_assign, ↓op_load, ↓op_ia, ↓op_len, ↓cells_l, ↓hd_cons, ↓ty28, ↓sl28, ↓sl44, List.getD_cons_zero, List.getD_cons_succ, List.set_cons_zero, List.set_cons_succ, List.length_cons, List.length_nil, List.length_map, Bool.true_and, Nat.reduceAdd, Nat.reduceSub, Nat.reduceMul, Nat.zero_add, Int.toNat_natCast, evK_go, reduceIte, decide_true, Nat.reduceEqDiff, Nat.reduceLT, true_and, Int.zero_add, Int.natCast_nonneg]
      refine loopW (fun j : Nat => { tm := slots 71 [(0, .d (I .i64 n)), (10, .o 0 0 (prJ M i j).length), (11, .d (I .i64 (i : Int))), (37, .d (.l (M.map liD))), (38, .d (I .i64 (m : Int))), (39, .d (I .i64 i)), (44, .d (.l ((M.getD i default).map (I .i64)))), (45, .d (I .i64 (M.getD i default).length)), (46, .d (I .i64 j))], bx := [], rw := [some ⟨2, (prJ M i j).map lnD⟩] })
        (fun j => j ≤ (M.getD i default).length) (fun j => (M.getD i default).length - j) 0 (by simp) ?_ ?_
      · refine Wkn.of [] [some 0] ?_
        simp (implicitDefEqProofs := false) (dsimp := false) only [prJ_zero, List.getD_cons_zero, List.set_cons_zero, List.set_cons_succ, Bool.and_self, Nat.reduceAdd, Nat.reduceSub, Nat.reduceMul, List.replicate, evK_go, reduceIte, Nat.reduceEqDiff, Nat.reduceLT, and_self, List.foldl_cons, List.foldl_nil, Int.cast_ofNat_Int, slots, wkL_nil, wkL_cons, wkB_nil, wkR_nil, wkR_some, wkV_j, wkV_d, wkV_o, frz_d, oK_zs, reduceCtorEq]
      · intro j hj
        have hjl : (prJ M i j).length ≤ 64 * i + 64 := by
          unfold prJ
          rw [List.length_append, List.length_map, List.length_take]
          omega
        simp (implicitDefEqProofs := false) (dsimp := false) only [slots, ↓aw_cond, ↓aw_seq, ↓aw_reg, ↓Qseq_n, ↓ops_nil, ↓ops_cons, ↓eval_tmp, ↓put_some, ↓bK_b, ↓binE_i, ↓bi_lss, ↓op_bin, List.getD_cons_zero, List.getD_cons_succ, List.set_cons_zero, List.set_cons_succ, Nat.reduceAdd, Nat.reduceSub, Nat.reduceMul, List.replicate, evK_go, reduceIte, Nat.reduceEqDiff, Nat.reduceLT, List.foldl_cons, List.foldl_nil, Int.ofNat_lt]
        refine cdK_dec (fun h1 => ?_) (fun h1 => ?_)
        · have hs := prJ_succ M h1
          simp (implicitDefEqProofs := false) (dsimp := false) only [h1, ↓optK_some, ↓rwK_mk_, ↓atK_H, ↓atH_map, ↓aw_seq, ↓aw_block, ↓aw_skip, ↓aw_reg, ↓Qseq_n, ↓Qblk_n, ↓ops_nil, ↓ops_cons, ↓eval_tmp, ↓eval_int, ↓put_some, ↓iK_i, ↓dK_d, ↓binE_i, ↓bi_add, ↓in_i64, ↓ldK_q, ↓iaK_l, ↓op_move, ↓op_assign, ↓op_load, ↓op_bin, ↓op_ia, ↓op_build, ↓op_append, ↓allD_nil, ↓allD_cons, ↓app_mk, ↓row_sz, ↓row_xs, kill_d, kill_j, kill_o, ↓cells_c, ↓cells_s, ↓one_i, ↓ap_, ↓ap_o, ↓src_l, ↓bs_, ↓op_bs, ↓bsL_f, ↓stored_mk, ↓sl_nil, ↓sl_cons, ↓sT_move, ↓sT_assign, ↓sT_build, ↓sT_bs, ↓sT_call, ↓vsz_agg, ↓inO_1, ↓fm_nil, ↓fm_cons, ↓hd_cons, ↓ty3, ↓sl22, ↓sl28, ↓ty35, ↓zb35, ↓bd35, List.getD_cons_zero, List.getD_cons_succ, List.set_cons_zero, List.set_cons_succ, List.cons_append, List.nil_append, List.map_cons, List.map_nil, List.length_cons, List.length_nil, List.length_map, List.all_cons, List.all_nil, Bool.true_and, Bool.and_self, Bool.or_false, Nat.reduceAdd, Nat.reduceSub, Nat.reduceMul, Nat.zero_add, Int.toNat_natCast, evK_go, reduceIte, decide_true, Nat.reduceEqDiff, Nat.reduceLT, and_self, true_and, Int.zero_add, List.drop_zero, Int.natCast_nonneg]
          refine ⟨⟨rfl, by decide⟩, rfl, ⟨fun _ => trivial, by omega, by omega⟩, by omega, j + 1, by omega, by omega, ?_⟩
          refine Wkn.of [] [some 0] ?_
          simp (implicitDefEqProofs := false) (dsimp := false) only [hs, List.map_append, List.length_append, lnD, List.getD_cons_zero, List.set_cons_zero, List.set_cons_succ, List.map_cons, List.map_nil, List.length_cons, List.length_nil, Bool.and_self, Nat.reduceAdd, Nat.reduceSub, Nat.reduceMul, Nat.zero_add, List.replicate, evK_go, reduceIte, Nat.reduceEqDiff, Nat.reduceLT, and_self, Int.zero_add, List.foldl_cons, List.foldl_nil, Int.cast_ofNat_Int, Int.natCast_add, slots, wkL_nil, wkL_cons, wkB_nil, wkR_nil, wkR_some, wkV_j, wkV_d, wkV_o, frz_d, oK_zs, reduceCtorEq]
        · obtain rfl : j = (M.getD i default).length := by omega
          simp (implicitDefEqProofs := false) (dsimp := false) only [↓optK_some, ↓rwK_mk_, ↓aw_seq, ↓aw_exit, ↓aw_reg, ↓Qseq_n, ↓Qseq_x, ↓Qblk_n, ↓Qblk_x, ↓ops_nil, ↓ops_cons, ↓eval_tmp, ↓eval_int, ↓eval_func, ↓put_some, ↓binE_i, ↓bi_add, ↓in_i64, ↓op_move, ↓op_bin, ↓op_call, isD_d, isD_o, ↓fnK_f, ↓call_H, ↓callK_H, ↓allT_nil, ↓allT_cons, ↓td_d, ↓td_o, ↓row_xs, ↓take_map, List.getD_cons_zero, List.getD_cons_succ, List.set_cons_zero, List.set_cons_succ, List.append_nil, List.all_cons, List.all_nil, Bool.and_true, Bool.and_false, Nat.reduceAdd, Nat.reduceSub, Nat.reduceMul, evK_go, reduceIte, decide_false, Nat.reduceEqDiff, Nat.reduceLT, and_true, Nat.lt_irrefl, List.drop_zero]
          refine ⟨by omega, i + 1, by omega, by omega, ?_⟩
          refine Wkn.of [] [some 0] ?_
          simp (implicitDefEqProofs := false) (dsimp := false) only [prI_succ, List.getD_cons_zero, List.set_cons_zero, List.set_cons_succ, Bool.and_self, Nat.reduceAdd, Nat.reduceSub, Nat.reduceMul, List.replicate, evK_go, reduceIte, Nat.reduceEqDiff, Nat.reduceLT, and_self, List.foldl_cons, List.foldl_nil, Int.cast_ofNat_Int, Int.natCast_add, slots, wkL_nil, wkL_cons, wkB_nil, wkR_nil, wkR_some, wkV_j, wkV_d, wkV_o, frz_d, oK_zs, reduceCtorEq]
    · obtain rfl : i = m := by omega
      have e1 : List.take (prI M i).length (List.map lnD (prI M i)) = List.map lnD (prI M i) := List.take_of_length_le (by simp)
      have hp62 : (prI M i).length < 2 ^ 62 := by omega
      simp (implicitDefEqProofs := false) (dsimp := false) only [e1, most_call, hp62, hmc, t_flat, eval_nilI, ↓er_neq, ↓cdK_false, ↓optK_some, ↓rwK_mk_, ↓nthK_H, ↓nthH_zero, ↓nthH_succ, ↓aw_cond, ↓aw_seq, ↓aw_exit, ↓aw_ret, ↓aw_skip, ↓aw_reg, ↓Qseq_n, ↓Qseq_x, ↓Qblk_x, ↓Qret_r, ↓ops_nil, ↓ops_cons, ↓eval_tmp, ↓eval_func, ↓put_some, ↓bK_b, ↓tK_t, ↓binE_i, ↓bi_sub, ↓in_i64, ↓op_move, ↓op_assign, ↓op_bin, ↓op_extract, ↓op_call, isD_d, isD_o, ↓fnK_f, ↓call_H, ↓callK_H, ↓allT_nil, ↓allT_cons, ↓td_d, ↓td_o, ↓ret_2, ↓row_xs, List.getD_cons_zero, List.getD_cons_succ, List.set_cons_zero, List.set_cons_succ, List.append_nil, List.all_cons, List.all_nil, Bool.and_true, Bool.true_and, Bool.and_false, Bool.or_true, Nat.reduceAdd, Nat.reduceSub, Nat.reduceMul, evK_go, reduceIte, decide_true, decide_false, Bool.not_true, Nat.reduceEqDiff, Nat.reduceLT, true_and, and_true, Nat.lt_irrefl, List.drop_zero]
      (repeat refine OrH.l ?_)
      exact ⟨by omega, by rw [erD_0]⟩
theorem rows_call (n : Int) (l : List (Int × Int)) (pure : Bool) (σ : St) (dst : Option Tmp) (K : St → Prop) : CallH Try.prog 63 [I .i64 n, .l (l.map lnD)] pure σ dst (.mk : Hid K) = OrH ((l.length < 2 ^ 62) ∧ (pure || D.flat (.t [I .i64 (rowsR n l), erD (chainE n l)])) = true ∧ evK (σ.put dst (.d (.t [I .i64 (rowsR n l), erD (chainE n l)]))) (.mk : Hid K)) (.mk : Hid (CallH Try.prog 63 [I .i64 n, .l (l.map lnD)] pure σ dst (.mk : Hid K))) := CallH.eq (rows_spec n l) pure σ dst K
theorem rows_callQ (n : Int) (l : List (Int × Int)) (pure : Bool) (C : V → Prop) : CallQ Try.prog 63 [I .i64 n, .l (l.map lnD)] pure (.mk : Hid C) = OrH ((l.length < 2 ^ 62) ∧ (pure || D.flat (.t [I .i64 (rowsR n l), erD (chainE n l)])) = true ∧ evK (V.d (.t [I .i64 (rowsR n l), erD (chainE n l)])) (.mk : Hid C)) (.mk : Hid (CallQ Try.prog 63 [I .i64 n, .l (l.map lnD)] pure (.mk : Hid C))) := CallQ.eq (rows_spec n l) pure C
theorem widest_spec (n : Int) (l : List (Int × Int)) (hpre : l.length < 2 ^ 62) : FnD Try.prog 64 [I .i64 n, .l (l.map lnD)] (.t [I .i64 (rowsR n l), erD (chainE n l)]) := by
  refine FnD.go Try.func64 rfl rfl Try.results64 Try.ntmps64 ?_
  simp (implicitDefEqProofs := false) (dsimp := false) only [↓aw_seq, ↓aw_reg, ↓Qseq_n, ↓ops_nil, ↓ops_cons, ↓eval_tmp, ↓eval_int, ↓eval_func, ↓put_some, ↓op_move, ↓op_assign, ↓op_call, isD_d, ↓fnK_f, ↓call_H, ↓callK_H, ↓allT_nil, ↓allT_cons, ↓td_d, List.getD_cons_zero, List.getD_cons_succ, List.set_cons_zero, List.set_cons_succ, List.cons_append, List.nil_append, List.append_nil, List.map_cons, List.map_nil, List.length_cons, List.length_nil, List.all_cons, List.all_nil, Bool.and_self, Nat.reduceAdd, Nat.reduceSub, Nat.reduceMul, Nat.zero_add, List.replicate, evK_go, reduceIte, Nat.reduceEqDiff, Nat.reduceLT, and_self, Int.zero_add]
  simp (implicitDefEqProofs := false) (dsimp := false) only [rows_call, hpre, eval_nilI, ↓nthK_H, ↓nthH_zero, ↓nthH_succ, ↓aw_seq, ↓aw_ret, ↓aw_reg, ↓Qseq_n, ↓Qret_r, ↓ops_nil, ↓ops_cons, ↓eval_tmp, ↓put_some, ↓tK_t, ↓op_move, ↓op_assign, ↓op_extract, ↓orH_T, ↓td_d, ↓ret_2, List.getD_cons_zero, List.getD_cons_succ, List.set_cons_zero, List.set_cons_succ, Bool.and_self, Bool.true_or, Nat.reduceAdd, Nat.reduceSub, Nat.reduceMul, evK_go, reduceIte, Nat.reduceEqDiff, Nat.reduceLT, and_self]
  (repeat refine OrH.l ?_)
theorem widest_call (n : Int) (l : List (Int × Int)) (pure : Bool) (σ : St) (dst : Option Tmp) (K : St → Prop) : CallH Try.prog 64 [I .i64 n, .l (l.map lnD)] pure σ dst (.mk : Hid K) = OrH ((l.length < 2 ^ 62) ∧ (pure || D.flat (.t [I .i64 (rowsR n l), erD (chainE n l)])) = true ∧ evK (σ.put dst (.d (.t [I .i64 (rowsR n l), erD (chainE n l)]))) (.mk : Hid K)) (.mk : Hid (CallH Try.prog 64 [I .i64 n, .l (l.map lnD)] pure σ dst (.mk : Hid K))) := CallH.eq (widest_spec n l) pure σ dst K
theorem widest_callQ (n : Int) (l : List (Int × Int)) (pure : Bool) (C : V → Prop) : CallQ Try.prog 64 [I .i64 n, .l (l.map lnD)] pure (.mk : Hid C) = OrH ((l.length < 2 ^ 62) ∧ (pure || D.flat (.t [I .i64 (rowsR n l), erD (chainE n l)])) = true ∧ evK (V.d (.t [I .i64 (rowsR n l), erD (chainE n l)])) (.mk : Hid C)) (.mk : Hid (CallQ Try.prog 64 [I .i64 n, .l (l.map lnD)] pure (.mk : Hid C))) := CallQ.eq (widest_spec n l) pure C
def chfL : List (Int × Int) := [(0, 1), (0, 2)]
theorem chf1_spec  : FnD Try.prog 65 [I .i64 3, .l [.s [I .i64 0, I .i64 1], .s [I .i64 0, I .i64 2]]] (.t [I .i64 2, erD 0]) := by
  have h := longest_spec 3 chfL (by decide)
  rw [show longR 3 chfL = 2 by decide +kernel, show topoE 3 chfL = 0 by decide +kernel] at h
  exact h
theorem chf1_call  (pure : Bool) (σ : St) (dst : Option Tmp) (K : St → Prop) : CallH Try.prog 65 [I .i64 3, .l [.s [I .i64 0, I .i64 1], .s [I .i64 0, I .i64 2]]] pure σ dst (.mk : Hid K) = OrH ((pure || D.flat (.t [I .i64 2, erD 0])) = true ∧ evK (σ.put dst (.d (.t [I .i64 2, erD 0]))) (.mk : Hid K)) (.mk : Hid (CallH Try.prog 65 [I .i64 3, .l [.s [I .i64 0, I .i64 1], .s [I .i64 0, I .i64 2]]] pure σ dst (.mk : Hid K))) := CallH.eq0 (chf1_spec ) pure σ dst K
theorem chf1_callQ  (pure : Bool) (C : V → Prop) : CallQ Try.prog 65 [I .i64 3, .l [.s [I .i64 0, I .i64 1], .s [I .i64 0, I .i64 2]]] pure (.mk : Hid C) = OrH ((pure || D.flat (.t [I .i64 2, erD 0])) = true ∧ evK (V.d (.t [I .i64 2, erD 0])) (.mk : Hid C)) (.mk : Hid (CallQ Try.prog 65 [I .i64 3, .l [.s [I .i64 0, I .i64 1], .s [I .i64 0, I .i64 2]]] pure (.mk : Hid C))) := CallQ.eq0 (chf1_spec ) pure C
theorem chf2_spec  : FnD Try.prog 63 [I .i64 3, .l [.s [I .i64 0, I .i64 1], .s [I .i64 0, I .i64 2]]] (.t [I .i64 2, erD 0]) := by
  have h := rows_spec 3 chfL (by decide)
  rw [show rowsR 3 chfL = 2 by decide +kernel, show chainE 3 chfL = 0 by decide +kernel] at h
  exact h
theorem chf2_call  (pure : Bool) (σ : St) (dst : Option Tmp) (K : St → Prop) : CallH Try.prog 63 [I .i64 3, .l [.s [I .i64 0, I .i64 1], .s [I .i64 0, I .i64 2]]] pure σ dst (.mk : Hid K) = OrH ((pure || D.flat (.t [I .i64 2, erD 0])) = true ∧ evK (σ.put dst (.d (.t [I .i64 2, erD 0]))) (.mk : Hid K)) (.mk : Hid (CallH Try.prog 63 [I .i64 3, .l [.s [I .i64 0, I .i64 1], .s [I .i64 0, I .i64 2]]] pure σ dst (.mk : Hid K))) := CallH.eq0 (chf2_spec ) pure σ dst K
theorem chf2_callQ  (pure : Bool) (C : V → Prop) : CallQ Try.prog 63 [I .i64 3, .l [.s [I .i64 0, I .i64 1], .s [I .i64 0, I .i64 2]]] pure (.mk : Hid C) = OrH ((pure || D.flat (.t [I .i64 2, erD 0])) = true ∧ evK (V.d (.t [I .i64 2, erD 0])) (.mk : Hid C)) (.mk : Hid (CallQ Try.prog 63 [I .i64 3, .l [.s [I .i64 0, I .i64 1], .s [I .i64 0, I .i64 2]]] pure (.mk : Hid C))) := CallQ.eq0 (chf2_spec ) pure C
theorem chf3_spec  : FnD Try.prog 64 [I .i64 3, .l [.s [I .i64 0, I .i64 1], .s [I .i64 0, I .i64 2]]] (.t [I .i64 2, erD 0]) := by
  have h := widest_spec 3 chfL (by decide)
  rw [show rowsR 3 chfL = 2 by decide +kernel, show chainE 3 chfL = 0 by decide +kernel] at h
  exact h
theorem chf3_call  (pure : Bool) (σ : St) (dst : Option Tmp) (K : St → Prop) : CallH Try.prog 64 [I .i64 3, .l [.s [I .i64 0, I .i64 1], .s [I .i64 0, I .i64 2]]] pure σ dst (.mk : Hid K) = OrH ((pure || D.flat (.t [I .i64 2, erD 0])) = true ∧ evK (σ.put dst (.d (.t [I .i64 2, erD 0]))) (.mk : Hid K)) (.mk : Hid (CallH Try.prog 64 [I .i64 3, .l [.s [I .i64 0, I .i64 1], .s [I .i64 0, I .i64 2]]] pure σ dst (.mk : Hid K))) := CallH.eq0 (chf3_spec ) pure σ dst K
theorem chf3_callQ  (pure : Bool) (C : V → Prop) : CallQ Try.prog 64 [I .i64 3, .l [.s [I .i64 0, I .i64 1], .s [I .i64 0, I .i64 2]]] pure (.mk : Hid C) = OrH ((pure || D.flat (.t [I .i64 2, erD 0])) = true ∧ evK (V.d (.t [I .i64 2, erD 0])) (.mk : Hid C)) (.mk : Hid (CallQ Try.prog 64 [I .i64 3, .l [.s [I .i64 0, I .i64 1], .s [I .i64 0, I .i64 2]]] pure (.mk : Hid C))) := CallQ.eq0 (chf3_spec ) pure C
theorem chfact_spec  : FnD Try.prog 62 [] (Bo true) := by
  refine FnD.go Try.func62 rfl rfl Try.results62 Try.ntmps62 ?_
  simp (implicitDefEqProofs := false) (dsimp := false) only [↓aw_seq, ↓aw_reg, ↓Qseq_n, ↓ops_nil, ↓ops_cons, ↓eval_tmp, ↓eval_int, ↓eval_bool, ↓eval_func, ↓put_some, ↓dK_d, ↓op_move, ↓op_assign, ↓op_build, ↓op_call, isD_d, ↓fnK_f, ↓call_H, ↓callK_H, ↓allT_nil, ↓allT_cons, ↓allD_nil, ↓allD_cons, ↓td_d, ↓cells_c, ↓cells_s, ↓one_i, ↓bs_, ↓op_bs, ↓bsL_f, ↓stored_mk, ↓sl_nil, ↓sl_cons, ↓sT_assign, ↓sT_build, ↓sT_bs, ↓vsz_agg, ↓inO_2, ↓fm_nil, ↓fm_cons, ↓sl22, ↓ty35, ↓zb35, ↓bd35, List.getD_cons_zero, List.getD_cons_succ, List.set_cons_zero, List.set_cons_succ, List.cons_append, List.nil_append, List.append_nil, List.map_cons, List.map_nil, List.length_cons, List.length_nil, List.all_cons, List.all_nil, Bool.true_and, Bool.and_self, Bool.or_false, Nat.reduceAdd, Nat.reduceSub, Nat.reduceMul, Nat.zero_add, List.replicate, evK_go, reduceIte, Nat.reduceEqDiff, Nat.reduceLT, and_self, true_and, Int.zero_add]
  simp (implicitDefEqProofs := false) (dsimp := false) only [chf1_call, chf2_call, chf3_call, eval_nilI, ↓er_eql, ↓cdK_true, ↓gdK_t, ↓gval_mk, ↓gvL_zero, ↓gvL_succ, ↓nthK_H, ↓nthH_zero, ↓nthH_succ, ↓aw_seq, ↓aw_ret, ↓aw_reg, ↓Qseq_n, ↓Qret_r, ↓ops_nil, ↓ops_cons, ↓ops_guard, ↓eval_tmp, ↓eval_int, ↓eval_func, ↓put_some, ↓bK_b, ↓tK_t, ↓binE_i, ↓bi_eql, ↓op_move, ↓op_assign, ↓op_pick, ↓op_bin, ↓op_extract, ↓op_call, ↓orH_T, isD_d, ↓fnK_f, ↓call_H, ↓callK_H, ↓allT_nil, ↓allT_cons, ↓td_d, ↓ret_1, ↓st_tm, List.getD_cons_zero, List.getD_cons_succ, List.set_cons_zero, List.set_cons_succ, List.append_nil, List.all_cons, List.all_nil, Bool.and_true, Bool.and_self, Bool.true_or, Nat.reduceAdd, Nat.reduceSub, Nat.reduceMul, evK_go, reduceIte, decide_true, Nat.reduceEqDiff, Nat.reduceLT, and_self, and_true]
  exact ⟨rfl, by decide⟩
theorem chfact_call  (pure : Bool) (σ : St) (dst : Option Tmp) (K : St → Prop) : CallH Try.prog 62 [] pure σ dst (.mk : Hid K) = OrH ((pure || D.flat (Bo true)) = true ∧ evK (σ.put dst (.d (Bo true))) (.mk : Hid K)) (.mk : Hid (CallH Try.prog 62 [] pure σ dst (.mk : Hid K))) := CallH.eq0 (chfact_spec ) pure σ dst K
theorem chfact_callQ  (pure : Bool) (C : V → Prop) : CallQ Try.prog 62 [] pure (.mk : Hid C) = OrH ((pure || D.flat (Bo true)) = true ∧ evK (V.d (Bo true)) (.mk : Hid C)) (.mk : Hid (CallQ Try.prog 62 [] pure (.mk : Hid C))) := CallQ.eq0 (chfact_spec ) pure C
end Go.Proofs

namespace Go.Proofs
open Go.Aw
set_option linter.unusedSimpArgs false
set_option maxRecDepth 10000
theorem riseK_len (l : List Int) (k : Nat) (hk : k ≤ l.length) : (riseK l k).1.length = l.length ∧ (riseK l k).2.length = k := by
  obtain ⟨ps, h⟩ := riseK_spec l k hk
  exact ⟨h.len, by rw [h.out, List.length_map, h.ps_len]⟩
theorem rise_spec (l : List Int) (hpre : l.length ≤ 1000) : FnR Try.prog 55 [.l (l.map (I .i64))] 1 ((rising l).map (I .i64)) := by
  refine FnR.go Try.func55 rfl rfl Try.results55 Try.ntmps55 ?_
  simp (implicitDefEqProofs := false) (dsimp := false) only [↓aw_seq, ↓aw_block, ↓aw_loop, ↓aw_reg, ↓Qseq_n, ↓ops_nil, ↓ops_cons, ↓eval_tmp, ↓eval_int, ↓eval_nil, ↓put_some, ↓iK_i, ↓dK_d, ↓lenK_l, ↓op_move, ↓op_assign, ↓op_len, ↓op_make, ↓addRow_mk, ↓st_rw, ↓cells_c, ↓one_b, constV_b, ↓mk_, ↓vsz_bool, ↓ty4, ↓zb4, ↓sl28, ↓sl38, List.getD_cons_zero, List.getD_cons_succ, List.set_cons_zero, List.set_cons_succ, List.cons_append, List.nil_append, List.map_cons, List.map_nil, List.length_cons, List.length_nil, List.length_map, List.all_cons, List.all_nil, Bool.and_true, Bool.true_and, Bool.and_self, Nat.reduceAdd, Nat.reduceSub, Nat.reduceMul, Nat.zero_add, Int.toNat_natCast, List.replicate, evK_go, reduceIte, Nat.reduceEqDiff, Nat.reduceLT, and_self, true_and, and_true, Int.zero_add, Int.natCast_nonneg]
  refine ⟨⟨by omega, by decide⟩, ?_⟩
  refine loopW (fun k : Nat => { tm := slots 55 [(0, .d (.l (l.map (I .i64)))), (3, .o 1 0 k), (4, .o 0 0 l.length), (5, .d (I .i64 k))], bx := [], rw := [some ⟨1, (riseK l k).1.map Bo⟩, some ⟨1, (riseK l k).2.map (I .i64)⟩] })
    (fun k => k ≤ l.length) (fun k => l.length - k) 0 (by simp) ?_ ?_
  · refine Wkn.of [] [some 0, none] ?_
    simp (implicitDefEqProofs := false) (dsimp := false) only [riseK, List.map_replicate, ↓row_xs, List.getD_cons_zero, List.set_cons_zero, List.set_cons_succ, List.map_nil, Bool.and_self, Nat.reduceAdd, Nat.reduceSub, Nat.reduceMul, List.replicate, evK_go, reduceIte, Nat.reduceEqDiff, Nat.reduceLT, and_self, List.foldl_cons, List.foldl_nil, Int.cast_ofNat_Int, slots, wkL_nil, wkL_cons, wkB_nil, wkR_nil, wkR_some, wkR_new, wkV_j, wkV_d, nlK_nl, wkV_o, frz_d, oK_zs, oK_zn, oK_s, reduceCtorEq]
  · intro k hk
    simp (implicitDefEqProofs := false) (dsimp := false) only [slots, ↓aw_cond, ↓aw_seq, ↓aw_reg, ↓Qseq_n, ↓ops_nil, ↓ops_cons, ↓eval_tmp, ↓put_some, ↓bK_b, ↓lenK_l, ↓binE_i, ↓bi_lss, ↓op_move, ↓op_bin, ↓op_len, ↓sl28, List.getD_cons_zero, List.getD_cons_succ, List.set_cons_zero, List.set_cons_succ, List.length_map, Nat.reduceAdd, Nat.reduceSub, Nat.reduceMul, List.replicate, evK_go, reduceIte, Nat.reduceEqDiff, Nat.reduceLT, List.foldl_cons, List.foldl_nil, Int.ofNat_lt]
    refine cdK_dec (fun h => ?_) (fun h => ?_)
    · obtain ⟨hl1, hl2⟩ := riseK_len l k hk
      obtain ⟨x, hx1, hx2, _⟩ := riseM_lt l h
      have hK : riseK l (k + 1) = ((riseK l k).1.set x true, (riseK l k).2 ++ [l.getD x default]) := by
        show riseS l (riseK l k) = _
        unfold riseS
        rw [hx1, Int.toNat_natCast]
      generalize hU : (riseK l k).1 = used at *
      generalize hO : (riseK l k).2 = out at *
      simp (implicitDefEqProofs := false) (dsimp := false) only [↓aw_seq, ↓aw_block, ↓aw_skip, ↓aw_loop, ↓aw_reg, ↓Qseq_n, ↓ops_nil, ↓ops_cons, ↓eval_int, ↓put_some, ↓op_assign, List.set_cons_zero, List.set_cons_succ, Nat.reduceAdd, Nat.reduceSub, Nat.reduceMul, evK_go, reduceIte, Nat.reduceEqDiff, Nat.reduceLT]
      refine loopW (fun i : Nat => { tm := slots 55 [(0, .d (.l (l.map (I .i64)))), (3, .o 1 0 k), (4, .o 0 0 l.length), (5, .d (I .i64 k)), (6, .d (I .i64 ((List.range i).foldl (riseB l used) (-1)))), (7, .d (I .i64 i))], bx := [], rw := [some ⟨1, used.map Bo⟩, some ⟨1, out.map (I .i64)⟩] })
        (fun i => i ≤ l.length) (fun i => l.length - i) 0 (by simp) ?_ ?_
      · refine Wkn.of [] [some 0, some 1] ?_
        simp (implicitDefEqProofs := false) (dsimp := false) only [List.range_zero, List.getD_cons_zero, List.getD_cons_succ, List.set_cons_zero, List.set_cons_succ, Bool.and_self, Nat.reduceAdd, Nat.reduceSub, Nat.reduceMul, List.replicate, evK_go, reduceIte, Nat.reduceEqDiff, Nat.reduceLT, and_self, List.foldl_cons, List.foldl_nil, Int.cast_ofNat_Int, slots, wkL_nil, wkL_cons, wkB_nil, wkR_nil, wkR_some, wkV_j, wkV_d, wkV_o, frz_d, oK_zs, oK_s, reduceCtorEq]
      · intro i hi
        simp (implicitDefEqProofs := false) (dsimp := false) only [slots, ↓aw_cond, ↓aw_seq, ↓aw_reg, ↓Qseq_n, ↓ops_nil, ↓ops_cons, ↓eval_tmp, ↓put_some, ↓bK_b, ↓lenK_l, ↓binE_i, ↓bi_lss, ↓op_move, ↓op_bin, ↓op_len, ↓sl28, List.getD_cons_zero, List.getD_cons_succ, List.set_cons_zero, List.set_cons_succ, List.length_map, Nat.reduceAdd, Nat.reduceSub, Nat.reduceMul, List.replicate, evK_go, reduceIte, Nat.reduceEqDiff, Nat.reduceLT, List.foldl_cons, List.foldl_nil, Int.ofNat_lt]
        refine cdK_dec (fun h1 => ?_) (fun h1 => ?_)
        · have hst : (List.range (i + 1)).foldl (riseB l used) (-1) = riseB l used ((List.range i).foldl (riseB l used) (-1)) i := by rw [List.range_succ, List.foldl_append]; rfl
          have hsp := riseB_spec l used i hi
          have hiu : i < used.length := by omega
          generalize (List.range i).foldl (riseB l used) (-1) = b at hst hsp ⊢
          simp (implicitDefEqProofs := false) (dsimp := false) only [hiu, h1, ↓cdK_not, ↓gdK_t, ↓gval_mk, ↓gvL_zero, ↓gvL_succ, ↓optK_some, ↓rwK_mk_, ↓atK_H, ↓atH_map, ↓nthK_H, ↓nthH_zero, ↓aw_seq, ↓aw_block, ↓aw_skip, ↓aw_draw, ↓Qseq_n, ↓eval_tmp, ↓put_some, ↓bK_b, ↓iK_i, ↓ev_move, ↓ev_load, ↓ev_not, ↓ev_ia, ↓ldK_e, ↓iaK_o, ↓draw_H, ↓h_cons, ↓ldH_n, ↓ldH_g, ↓q_move, ↓q_load, ↓q_un, ↓q_ia, ↓il_move, ↓il_load, ↓il_un, ↓il_ia, ↓st_tm, ↓row_sz, ↓row_xs, ↓cells_c, ↓ty4, ↓sl38, List.getD_cons_zero, List.getD_cons_succ, List.set_cons_zero, List.set_cons_succ, Bool.true_and, Bool.and_self, Nat.reduceAdd, Nat.reduceSub, Nat.reduceMul, Nat.zero_add, Int.toNat_natCast, evK_go, reduceIte, decide_true, Nat.reduceEqDiff, Nat.reduceLT, and_self, true_and, Int.zero_add, Int.ofNat_lt, Int.natCast_nonneg]
          refine OrH.l ⟨DrawH.of follows_mixed (by kernel_rfl), ?_⟩
          cases hb : used.getD i default with
          | true =>
            have e : riseB l used b i = b := if_neg (by rw [hb]; simp)
            rw [e] at hst
            simp (implicitDefEqProofs := false) (dsimp := false) only [↓cdK_true, ↓cdK_false, ↓gdK_junk, ↓gdK_t, ↓gval_mk, ↓gvL_zero, ↓gvL_succ, ↓aw_cond, ↓aw_skip, ↓aw_reg, ↓Qseq_n, ↓Qblk_n, ↓ops_nil, ↓ops_cons, ↓eval_tmp, ↓eval_int, ↓eval_bool, ↓put_some, ↓bK_b, ↓ev_pick, ↓binE_i, ↓bi_add, ↓in_i64, ↓op_move, ↓op_assign, ↓op_bin, ↓h_nil, ↓h_cons, ↓ldH_n, ↓ldH_g, ↓q_pick, ↓il_move, ↓il_pick, ↓il_load, ↓il_bin, ↓il_ia, ↓st_tm, List.getD_cons_zero, List.getD_cons_succ, List.set_cons_zero, List.set_cons_succ, Nat.reduceAdd, Nat.reduceSub, Nat.reduceMul, evK_go, reduceIte, Bool.not_true, Nat.reduceEqDiff, Nat.reduceLT]
            refine ⟨by omega, i + 1, by omega, by omega, ?_⟩
            refine Wkn.of [] [some 0, some 1] ?_
            simp (implicitDefEqProofs := false) (dsimp := false) only [hst, List.getD_cons_zero, List.getD_cons_succ, List.set_cons_zero, List.set_cons_succ, Bool.and_self, Nat.reduceAdd, Nat.reduceSub, Nat.reduceMul, List.replicate, evK_go, reduceIte, Nat.reduceEqDiff, Nat.reduceLT, and_self, List.foldl_cons, List.foldl_nil, Int.cast_ofNat_Int, Int.natCast_add, slots, wkL_nil, wkL_cons, wkB_nil, wkR_nil, wkR_some, wkV_j, wkV_d, wkV_o, frz_d, oK_zs, oK_s, reduceCtorEq]
          | false =>
            rcases hsp with ⟨rfl, _⟩ | ⟨y, rfl, hy, _⟩
            · have e : riseB l used (-1) i = (i : Int) := if_pos ⟨hb, .inl (by decide)⟩
              rw [e] at hst
              have hd : decide ((-1 : Int) < 0) = true := rfl
              simp (implicitDefEqProofs := false) (dsimp := false) only [hd, ↓cdK_true, ↓cdK_false, ↓gdK_t, ↓gdK_f, ↓gval_mk, ↓gvL_zero, ↓gvL_succ, ↓aw_cond, ↓aw_reg, ↓Qseq_n, ↓Qblk_n, ↓ops_nil, ↓ops_cons, ↓eval_tmp, ↓eval_int, ↓eval_bool, ↓put_some, ↓bK_b, ↓ev_move, ↓ev_pick, ↓ev_bin, ↓binE_i, ↓bi_add, ↓bi_lss, ↓in_i64, ↓op_move, ↓op_assign, ↓op_bin, ↓h_nil, ↓h_cons, ↓ldH_n, ↓ldH_g, ↓q_move, ↓q_pick, ↓q_bin, ↓il_move, ↓il_pick, ↓il_load, ↓il_bin, ↓il_ia, ↓st_tm, List.getD_cons_zero, List.getD_cons_succ, List.set_cons_zero, List.set_cons_succ, Nat.reduceAdd, Nat.reduceSub, Nat.reduceMul, evK_go, reduceIte, Bool.not_false, Nat.reduceEqDiff, Nat.reduceLT]
              refine ⟨by omega, i + 1, by omega, by omega, ?_⟩
              refine Wkn.of [] [some 0, some 1] ?_
              simp (implicitDefEqProofs := false) (dsimp := false) only [hst, List.getD_cons_zero, List.getD_cons_succ, List.set_cons_zero, List.set_cons_succ, Bool.and_self, Nat.reduceAdd, Nat.reduceSub, Nat.reduceMul, List.replicate, evK_go, reduceIte, Nat.reduceEqDiff, Nat.reduceLT, and_self, List.foldl_cons, List.foldl_nil, Int.cast_ofNat_Int, Int.natCast_add, slots, wkL_nil, wkL_cons, wkB_nil, wkR_nil, wkR_some, wkV_j, wkV_d, wkV_o, frz_d, oK_zs, oK_s, reduceCtorEq]
            · have hd : decide ((y : Int) < 0) = false := by rw [decide_eq_false_iff_not]; omega
              have hyl : y < l.length := by omega
              simp (implicitDefEqProofs := false) (dsimp := false) only [hd, h1, hyl, ↓cdK_true, ↓cdK_false, ↓gdK_t, ↓gdK_f, ↓gval_mk, ↓gvL_zero, ↓gvL_succ, ↓atK_H, ↓atH_map, ↓aw_cond, ↓Qseq_n, ↓eval_tmp, ↓eval_int, ↓put_some, ↓bK_b, ↓iK_i, ↓ev_move, ↓ev_pick, ↓ev_load, ↓ev_bin, ↓ev_ia, ↓binE_i, ↓bi_lss, ↓ldK_q, ↓iaK_l, ↓h_nil, ↓h_cons, ↓ldH_n, ↓ldH_g, ↓q_move, ↓q_pick, ↓q_load, ↓q_bin, ↓q_ia, ↓il_move, ↓il_pick, ↓il_load, ↓il_bin, ↓il_ia, ↓st_tm, ↓cells_c, ↓hd_cons, ↓ty3, ↓sl28, List.getD_cons_zero, List.getD_cons_succ, List.set_cons_zero, List.set_cons_succ, List.length_cons, List.length_nil, Bool.true_and, Nat.reduceAdd, Nat.reduceSub, Nat.reduceMul, Nat.zero_add, Int.toNat_natCast, evK_go, reduceIte, Bool.not_false, Nat.reduceEqDiff, Nat.reduceLT, true_and, Int.zero_add, Int.natCast_nonneg]
              refine cdK_dec (fun h2 => ?_) (fun h2 => ?_)
              · have e : riseB l used (y : Int) i = (i : Int) := if_pos ⟨hb, .inr (by rw [Int.toNat_natCast]; exact h2)⟩
                rw [e] at hst
                have hd2 : decide (l.getD i default < l.getD y default) = true := decide_eq_true h2
                simp (implicitDefEqProofs := false) (dsimp := false) only [hd2, ↓aw_reg, ↓Qseq_n, ↓Qblk_n, ↓ops_nil, ↓ops_cons, ↓eval_tmp, ↓eval_int, ↓put_some, ↓binE_i, ↓bi_add, ↓in_i64, ↓op_move, ↓op_assign, ↓op_bin, List.getD_cons_zero, List.getD_cons_succ, List.set_cons_zero, List.set_cons_succ, Nat.reduceAdd, Nat.reduceSub, Nat.reduceMul, evK_go, reduceIte, Nat.reduceEqDiff, Nat.reduceLT]
                refine ⟨by omega, i + 1, by omega, by omega, ?_⟩
                refine Wkn.of [] [some 0, some 1] ?_
                simp (implicitDefEqProofs := false) (dsimp := false) only [hst, List.getD_cons_zero, List.getD_cons_succ, List.set_cons_zero, List.set_cons_succ, Bool.and_self, Nat.reduceAdd, Nat.reduceSub, Nat.reduceMul, List.replicate, evK_go, reduceIte, Nat.reduceEqDiff, Nat.reduceLT, and_self, List.foldl_cons, List.foldl_nil, Int.cast_ofNat_Int, Int.natCast_add, slots, wkL_nil, wkL_cons, wkB_nil, wkR_nil, wkR_some, wkV_j, wkV_d, wkV_o, frz_d, oK_zs, oK_s, reduceCtorEq]
              · have e : riseB l used (y : Int) i = (y : Int) := if_neg (by rw [Int.toNat_natCast]; rintro ⟨_, h3 | h3⟩ <;> omega)
                rw [e] at hst
                have hd2 : decide (l.getD i default < l.getD y default) = false := decide_eq_false h2
                simp (implicitDefEqProofs := false) (dsimp := false) only [hd2, ↓aw_skip, ↓aw_reg, ↓Qseq_n, ↓Qblk_n, ↓ops_nil, ↓ops_cons, ↓eval_tmp, ↓eval_int, ↓put_some, ↓binE_i, ↓bi_add, ↓in_i64, ↓op_move, ↓op_assign, ↓op_bin, List.getD_cons_zero, List.getD_cons_succ, List.set_cons_zero, List.set_cons_succ, Nat.reduceAdd, Nat.reduceSub, Nat.reduceMul, evK_go, reduceIte, Nat.reduceEqDiff, Nat.reduceLT]
                refine ⟨by omega, i + 1, by omega, by omega, ?_⟩
                refine Wkn.of [] [some 0, some 1] ?_
                simp (implicitDefEqProofs := false) (dsimp := false) only [hst, List.getD_cons_zero, List.getD_cons_succ, List.set_cons_zero, List.set_cons_succ, Bool.and_self, Nat.reduceAdd, Nat.reduceSub, Nat.reduceMul, List.replicate, evK_go, reduceIte, Nat.reduceEqDiff, Nat.reduceLT, and_self, List.foldl_cons, List.foldl_nil, Int.cast_ofNat_Int, Int.natCast_add, slots, wkL_nil, wkL_cons, wkB_nil, wkR_nil, wkR_some, wkV_j, wkV_d, wkV_o, frz_d, oK_zs, oK_s, reduceCtorEq]
        · obtain rfl : i = l.length := by omega
          have hx1' : (List.range l.length).foldl (riseB l used) (-1) = (x : Int) := hx1
          have hxu : x < used.length := by omega
          simp (implicitDefEqProofs := false) (dsimp := false) only [hx1', hx2, ↓optK_some, ↓rwK_mk_, ↓atK_H, ↓atH_map, ↓aw_seq, ↓aw_exit, ↓aw_ret, ↓aw_reg, ↓Qseq_n, ↓Qseq_x, ↓Qblk_n, ↓Qblk_x, ↓ops_nil, ↓ops_cons, ↓eval_tmp, ↓eval_int, ↓eval_bool, ↓put_some, ↓put_none, ↓iK_i, ↓dK_d, ↓binE_i, ↓bi_add, ↓in_i64, ↓ldK_q, ↓iaK_l, ↓iaK_o, ↓op_move, ↓op_assign, ↓op_load, ↓op_bin, ↓op_ia, ↓op_append, ↓op_store, ↓allD_nil, ↓allD_cons, ↓setRow_mk, ↓app_mk, ↓row_sz, ↓row_xs, kill_d, kill_j, kill_o, kill_e, ↓cells_c, ↓one_i, ↓one_b, ↓st_e, ↓ap_, ↓ap_o, ↓src_l, ↓bs_, ↓op_bs, ↓bsL_f, ↓stored_mk, ↓sl_nil, ↓sl_cons, ↓sT_move, ↓sT_assign, ↓sT_load, ↓sT_ia, ↓sT_bs, ↓sT_call, ↓vsz_int, ↓inO_1, ↓fm_nil, ↓fm_cons, ↓hd_cons, ↓Qrow_r, ↓rowK_o, ↓ty3, ↓zb3, ↓ty4, ↓sl28, ↓sl38, List.getD_cons_zero, List.getD_cons_succ, List.set_cons_zero, List.set_cons_succ, List.map_cons, List.map_nil, List.length_cons, List.length_nil, List.length_map, List.all_cons, List.all_nil, Bool.true_and, Bool.and_self, Bool.or_false, Nat.reduceAdd, Nat.reduceSub, Nat.reduceMul, Nat.zero_add, Int.toNat_natCast, evK_go, reduceIte, decide_false, Nat.reduceEqDiff, Nat.reduceLT, and_self, true_and, Nat.lt_irrefl, Int.zero_add, List.drop_zero, Int.ofNat_lt, Int.natCast_nonneg]
          refine ⟨by decide, ⟨fun _ => trivial, by omega, by omega, by omega⟩, by omega, k + 1, by omega, by omega, ?_⟩
          refine Wkn.of [] [some 0, some 1] ?_
          simp (implicitDefEqProofs := false) (dsimp := false) only [hK, List.map_append, List.map_set, List.getD_cons_zero, List.getD_cons_succ, List.set_cons_zero, List.set_cons_succ, List.map_cons, List.map_nil, Bool.and_self, Nat.reduceAdd, Nat.reduceSub, Nat.reduceMul, List.replicate, evK_go, reduceIte, Nat.reduceEqDiff, Nat.reduceLT, and_self, List.foldl_cons, List.foldl_nil, Int.cast_ofNat_Int, Int.natCast_add, slots, wkL_nil, wkL_cons, wkB_nil, wkR_nil, wkR_some, wkV_j, wkV_d, wkV_o, frz_d, oK_zs, oK_s, reduceCtorEq]
    · obtain rfl : k = l.length := by omega
      simp (implicitDefEqProofs := false) (dsimp := false) only [↓optK_some, ↓rwK_mk_, ↓aw_seq, ↓aw_exit, ↓aw_ret, ↓aw_reg, ↓Qseq_n, ↓Qseq_x, ↓Qblk_x, ↓ops_nil, ↓ops_cons, ↓eval_tmp, ↓put_some, ↓op_move, ↓op_assign, ↓row_sz, ↓row_xs, ↓Qrow_r, ↓rowK_o, List.getD_cons_zero, List.getD_cons_succ, List.set_cons_zero, List.set_cons_succ, Bool.true_and, Nat.reduceAdd, Nat.reduceSub, Nat.reduceMul, evK_go, reduceIte, decide_false, Nat.reduceEqDiff, Nat.reduceLT, true_and, Nat.lt_irrefl]
      have h2 := (riseK_len l l.length (Nat.le_refl _)).2
      exact List.take_of_length_le (by simp [h2])
theorem rise_call (l : List Int) (pure : Bool) (σ : St) (dst : Option Tmp) (K : St → Prop) : CallH Try.prog 55 [.l (l.map (I .i64))] pure σ dst (.mk : Hid K) = OrH ((l.length ≤ 1000) ∧ (pure || Res.flat (.row 1 ((rising l).map (I .i64)))) = true ∧ evK ((σ.addRow ⟨1, (rising l).map (I .i64)⟩).put dst (.o σ.rw.length 0 (List.length ((rising l).map (I .i64))))) (.mk : Hid K)) (.mk : Hid (CallH Try.prog 55 [.l (l.map (I .i64))] pure σ dst (.mk : Hid K))) := CallH.eqR (fun h => rise_spec l h) pure σ dst K
theorem rise_callD (l : List Int) (pure : Bool) (σ : St) (dst : Option Tmp) (K : St → Prop) : CallH Try.prog 55 [.l (l.map (I .i64))] pure σ dst (.mk : Hid K) = OrH ((l.length ≤ 1000) ∧ (pure || D.flat (.l ((rising l).map (I .i64)))) = true ∧ evK (σ.put dst (.d (.l ((rising l).map (I .i64))))) (.mk : Hid K)) (.mk : Hid (CallH Try.prog 55 [.l (l.map (I .i64))] pure σ dst (.mk : Hid K))) := CallH.eq (fun h => ((fun h => rise_spec l h) h).data) pure σ dst K
theorem rise_callDQ (l : List Int) (pure : Bool) (C : V → Prop) : CallQ Try.prog 55 [.l (l.map (I .i64))] pure (.mk : Hid C) = OrH ((l.length ≤ 1000) ∧ (pure || D.flat (.l ((rising l).map (I .i64)))) = true ∧ evK (V.d (.l ((rising l).map (I .i64)))) (.mk : Hid C)) (.mk : Hid (CallQ Try.prog 55 [.l (l.map (I .i64))] pure (.mk : Hid C))) := CallQ.eq (fun h => ((fun h => rise_spec l h) h).data) pure C
end Go.Proofs

namespace Go.Proofs
open Go.Aw
set_option linter.unusedSimpArgs false
set_option maxRecDepth 10000
theorem chainE_zero {n : Int} {l : List (Int × Int)} (h : chainE n l = 0) : topoE n l = 0 ∧ n ≤ 6 := by
  unfold chainE at h
  split at h
  · rename_i h1
    split at h
    · cases h
    · exact ⟨h1, by omega⟩
  · rename_i h1; exact absurd h h1
theorem deepR_is {n : Int} {l : List (Int × Int)} (h : topoE n l = 0) : IsDeep (natL l) fun j => (deepR n l).getD j default := by
  obtain ⟨hchk, o, ho⟩ := topoE_zero h
  have ok := chk_ok hchk
  have ht : topoL n l = o := by unfold topoL; rw [if_pos hchk, ho]; rfl
  rw [show deepR n l = deepS n.toNat (natL l) (topoL n l) from if_pos h, ht]
  exact (deep_spec (by have := ok.hi; omega) ok.good (topo_some (by have := ok.hi; omega) ok.good ho)).2
theorem rows_mn {n : Int} {l : List (Int × Int)} (h : chainE n l = 0) : ∃ m : Nat, MN (warR n.toNat (natL l)) m ∧ rowsR n l = n - m ∧ m ≤ n.toNat := by
  obtain ⟨ht, h6⟩ := chainE_zero h
  obtain ⟨hchk, _⟩ := topoE_zero ht
  have hm := most_mn (prI_chk ht h6)
  rw [prI_nat hchk] at hm
  exact ⟨_, hm, if_pos h, (most_le (prI_chk ht h6)).1⟩
theorem rows_range {n : Int} {l : List (Int × Int)} (h : chainE n l = 0) : 1 ≤ rowsR n l ∧ rowsR n l ≤ n := by
  obtain ⟨ht, h6⟩ := chainE_zero h
  obtain ⟨hchk, o, ho⟩ := topoE_zero ht
  have ok := chk_ok hchk
  obtain ⟨m, h1, h2, h3⟩ := rows_mn h
  have hTI := topo_some (by have := ok.hi; omega) ok.good ho
  have hn := ok.n0
  have hlo := ok.lo
  have hol := hTI.len
  have hg : Good n.toNat (warR n.toNat (natL l)) := fun p hp => ((warR_mem (by have := ok.hi; omega) ok.good p.1 p.2).1 hp).lt ok.good
  have hlt : n.toNat - 1 < o.length := by omega
  have := most_lt h1 hg (z := o[n.toNat - 1]) (hTI.mem.1 (List.getElem_mem hlt)) fun b hb => by
    have hp := (warR_mem (by have := ok.hi; omega) ok.good _ _).1 hb
    have h4 := hTI.path ok.good hp
    rw [List.Nodup.idxOf_getElem hTI.nodup] at h4
    have h5 := List.idxOf_lt_length_of_mem (hTI.mem.2 (hp.lt ok.good).2)
    omega
  omega
theorem topo_sub {n : Int} {l l' : List (Int × Int)} (h : topoE n l' = 0) (hs : ∀ p ∈ l, p ∈ l') (hl : l.length ≤ 24) : topoE n l = 0 := by
  obtain ⟨hchk, _⟩ := topoE_zero h
  have hc : chk n l = 0 := chk_sub hchk hl hs
  have ok := chk_ok hc
  unfold topoE
  rw [if_pos hc]
  cases ho : topoO n.toNat (natL l) with
  | some o => rfl
  | none =>
    obtain ⟨i, hi⟩ := (topo_iff (by have := ok.hi; omega) ok.good).1 ho
    exact absurd (hi.mono fun p hp => by
      obtain ⟨q, hq, rfl⟩ := List.mem_map.1 hp
      exact List.mem_map.2 ⟨q, hs q hq, rfl⟩) (topo_noring h i)
theorem deep_mono {l l' : List (Nat × Nat)} {d d' : Nat → Nat} (hd : IsDeep l d) (hd' : IsDeep l' d') (hs : ∀ p ∈ l, p ∈ l') (b : Nat) : d b ≤ d' b := by
  obtain ⟨a, ha⟩ := hd.way _ b rfl
  have := (ha.mono hs).le hd'
  omega
theorem long_mono {n : Int} {l l' : List (Int × Int)} (h : topoE n l = 0) (h' : topoE n l' = 0) (hs : ∀ p ∈ l, p ∈ l') : longR n l ≤ longR n l' := by
  have e1 : longR n l = maxN (deepR n l) + 1 := if_pos h
  have e2 : longR n l' = maxN (deepR n l') + 1 := if_pos h'
  obtain ⟨h1, h2, h3, _⟩ := deepR_len h
  obtain ⟨h1', _, _, _⟩ := deepR_len h'
  obtain ⟨m1, _⟩ := maxN_spec (l := deepR n l) (by omega)
  obtain ⟨_, m2⟩ := maxN_spec (l := deepR n l') (by omega)
  obtain ⟨i, hi, e⟩ := List.mem_iff_getElem.1 m1
  have h4 := deep_mono (deepR_is h) (deepR_is h') (fun p hp => by
    obtain ⟨q, hq, rfl⟩ := List.mem_map.1 hp
    exact List.mem_map.2 ⟨q, hs q hq, rfl⟩) i
  have h5 := m2 _ (getD_mem (l := deepR n l') (k := i) (by omega))
  rw [List.getD_eq_getElem?_getD, List.getElem?_eq_getElem hi, Option.getD_some, e] at h4
  omega
theorem rows_mono {n : Int} {l l' : List (Int × Int)} (h : topoE n l = 0) (h' : topoE n l' = 0) (hs : ∀ p ∈ l, p ∈ l') : chainE n l = chainE n l' ∧ rowsR n l' ≤ rowsR n l := by
  have e : chainE n l = chainE n l' := by
    unfold chainE
    rw [if_pos h, if_pos h']
  refine ⟨e, ?_⟩
  by_cases hz : chainE n l = 0
  · obtain ⟨m, g1, g2, g3⟩ := rows_mn hz
    obtain ⟨m', g1', g2', g3'⟩ := rows_mn (e ▸ hz)
    obtain ⟨hchk, _⟩ := topoE_zero h
    obtain ⟨hchk', _⟩ := topoE_zero h'
    have ok := chk_ok hchk
    have ok' := chk_ok hchk'
    have := g1.le g1' fun p hp => by
      have hp1 := (warR_mem (by have := ok.hi; omega) ok.good p.1 p.2).1 hp
      exact (warR_mem (by have := ok.hi; omega) ok'.good p.1 p.2).2 (hp1.mono fun p hp => by
        obtain ⟨q, hq, rfl⟩ := List.mem_map.1 hp
        exact List.mem_map.2 ⟨q, hs q hq, rfl⟩)
    omega
  · rw [show rowsR n l = 0 from if_neg hz, show rowsR n l' = 0 from if_neg (e ▸ hz)]
    exact Int.le_refl _
/-- Ahead is less deep. -/
theorem deep_path {n : Int} {l : List (Int × Int)} (h : topoE n l = 0) {i j : Nat} (hp : Path1 (natL l) i j) : (deepR n l).getD i default < (deepR n l).getD j default := by
  have hd := deepR_is h
  obtain ⟨c, h1, h2⟩ := hp
  have := hd.1 _ _ h1
  have key : ∀ x, Path (natL l) c x → (deepR n l).getD c default ≤ (deepR n l).getD x default := fun x hx => by
    induction hx with
    | refl => exact Nat.le_refl _
    | step _ h3 ih => have := hd.1 _ _ h3; simp only at this; omega
  have := key j h2
  simp only at *
  omega
theorem mirsky_w {n : Int} {l : List (Int × Int)} (h : chainE n l = 0) : n ≤ (longR n l : Int) * rowsR n l := by
  obtain ⟨ht, h6⟩ := chainE_zero h
  obtain ⟨hchk, _⟩ := topoE_zero ht
  have ok := chk_ok hchk
  have hn := ok.n0
  obtain ⟨m, h1, h2, h3⟩ := rows_mn h
  have h8 : n.toNat ≤ 64 := by have := ok.hi; omega
  have hg : Good n.toNat (warR n.toNat (natL l)) := fun p hp => ((warR_mem h8 ok.good p.1 p.2).1 hp).lt ok.good
  obtain ⟨d1, d2, d3, _⟩ := deepR_len ht
  obtain ⟨_, m2⟩ := maxN_spec (l := deepR n l) (by omega)
  have := mirsky hg (fun a b c hab hbc => (warR_mem h8 ok.good _ _).2 (((warR_mem h8 ok.good _ _).1 hab).trans ((warR_mem h8 ok.good _ _).1 hbc).path)) h1
    (d := fun i => (deepR n l).getD i default) (fun a b hab => deep_path ht ((warR_mem h8 ok.good _ _).1 hab)) (a := longR n l) fun i hi => by
      rw [show longR n l = maxN (deepR n l) + 1 from if_pos ht]
      have := m2 _ (getD_mem (l := deepR n l) (k := i) (by omega))
      omega
  have e : rowsR n l = ((n.toNat - m : Nat) : Int) := by omega
  rw [e]
  have h9 : ((longR n l * (n.toNat - m) : Nat) : Int) = (longR n l : Int) * ((n.toNat - m : Nat) : Int) := by push_cast; rfl
  rw [← h9]
  omega
end Go.Proofs

namespace Go.Proofs
open Go.Aw
set_option linter.unusedSimpArgs false
set_option maxRecDepth 10000
theorem lChainMirsky_spec (n : Int) (l : List (Int × Int)) (_hn : -9223372036854775808 ≤ n ∧ n ≤ 9223372036854775807) (hpre : l.length < 2 ^ 43) : FnD Try.prog 24 [I .i64 n, .l (l.map lnD)] (Bo true) := by
  have hl62 : l.length < 2 ^ 62 := by omega
  refine FnD.go Try.func24 rfl rfl Try.results24 Try.ntmps24 ?_
  simp (implicitDefEqProofs := false) (dsimp := false) only [↓aw_seq, ↓aw_reg, ↓Qseq_n, ↓ops_nil, ↓ops_cons, ↓eval_bool, ↓eval_func, ↓put_some, ↓op_assign, ↓op_call, isD_d, ↓fnK_f, ↓call_H, ↓callK_H, ↓allT_nil, ↓td_d, List.set_cons_zero, List.set_cons_succ, List.cons_append, List.nil_append, List.append_nil, List.map_cons, List.map_nil, List.length_cons, List.length_nil, List.all_nil, Bool.and_self, Nat.reduceAdd, Nat.reduceSub, Nat.reduceMul, Nat.zero_add, List.replicate, evK_go, reduceIte, Nat.reduceEqDiff, Nat.reduceLT, and_self, Int.zero_add]
  simp (implicitDefEqProofs := false) (dsimp := false) only [chfact_call, longest_call, hl62, eval_nilI, ↓er_neq, ↓cdK_false, ↓cdK_not, ↓nthK_H, ↓nthH_zero, ↓nthH_succ, ↓aw_cond, ↓aw_seq, ↓aw_skip, ↓aw_reg, ↓Qseq_n, ↓ops_nil, ↓ops_cons, ↓eval_tmp, ↓eval_func, ↓put_some, ↓bK_b, ↓tK_t, ↓op_move, ↓op_assign, ↓op_bin, ↓op_not, ↓op_extract, ↓op_call, isD_d, ↓fnK_f, ↓call_H, ↓callK_H, ↓allT_nil, ↓allT_cons, ↓td_d, List.getD_cons_zero, List.getD_cons_succ, List.set_cons_zero, List.set_cons_succ, List.append_nil, List.all_cons, List.all_nil, Bool.true_and, Bool.and_self, Bool.true_or, Nat.reduceAdd, Nat.reduceSub, Nat.reduceMul, evK_go, reduceIte, Bool.not_true, Nat.reduceEqDiff, Nat.reduceLT, and_self, true_and]
  (repeat refine OrH.l ?_)
  refine cdK_dec (fun hc => ?_) (fun hc => ?_)
  rotate_left
  · have e1 : longR n l = 0 := if_neg hc
    simp (implicitDefEqProofs := false) (dsimp := false) only [e1, ↓aw_seq, ↓aw_ret, ↓aw_reg, ↓Qseq_n, ↓Qseq_r, ↓Qret_r, ↓ops_nil, ↓ops_cons, ↓eval_tmp, ↓eval_int, ↓put_some, ↓binE_i, ↓bi_eql, ↓op_move, ↓op_assign, ↓op_bin, ↓td_d, ↓ret_1, List.getD_cons_zero, List.getD_cons_succ, List.set_cons_zero, List.set_cons_succ, Nat.reduceAdd, Nat.reduceSub, Nat.reduceMul, evK_go, reduceIte, decide_true, Nat.reduceEqDiff, Nat.reduceLT, Int.cast_ofNat_Int]
  obtain ⟨hchk, _⟩ := topoE_zero hc
  have cw := closeW hchk
  obtain ⟨d1, d2, d3, d4⟩ := deepR_len hc
  have hdp : ∀ i j : Nat, (j : Int) ∈ (closeAll n l).getD i default → (deepR n l).getD i default < (deepR n l).getD j default := fun i j h => deep_path hc ((close_mem hchk i j).1 h)
  have hmk : chainE n l = 0 → n ≤ (longR n l : Int) * rowsR n l := mirsky_w
  have hce : chainE n l = if 6 < n then 4 else 0 := if_pos hc
  have hrg : chainE n l = 0 → 1 ≤ rowsR n l ∧ rowsR n l ≤ n := rows_range
  have hlong : longR n l = maxN (deepR n l) + 1 := if_pos hc
  obtain ⟨m1, m2⟩ := maxN_spec (l := deepR n l) (by omega)
  have hrl := rising_last (l := (deepR n l).map Int.ofNat) (m := (maxN (deepR n l) : Int)) (List.mem_map.2 ⟨_, m1, rfl⟩) (fun x hx => by
    obtain ⟨y, hy, rfl⟩ := List.mem_map.1 hx
    have := m2 y hy
    simp (implicitDefEqProofs := false) (dsimp := false) only [Int.ofNat_eq_natCast]
    omega)
  have hrlen := (rising_spec ((deepR n l).map Int.ofNat)).1
  rw [List.length_map] at hrl hrlen
  have hmb : maxN (deepR n l) ≤ 1000 := by
    obtain ⟨i, hi, e⟩ := List.mem_iff_getElem.1 m1
    have := d4 i
    rw [List.getD_eq_getElem?_getD, List.getElem?_eq_getElem hi, Option.getD_some, e] at this
    exact this
  have n0 := cw.n0
  have hMl := cw.len
  obtain ⟨Dl, hDl⟩ : ∃ Dl, Dl = (deepR n l).map Int.ofNat := ⟨_, rfl⟩
  have hDlen : Dl.length = n.toNat := by rw [hDl, List.length_map, d1]
  have hDget : ∀ i : Nat, Dl.getD i default = ((deepR n l).getD i default : Nat) := fun i => by
    rw [hDl, List.getD_eq_getElem?_getD, List.getD_eq_getElem?_getD, List.getElem?_map]
    cases (deepR n l)[i]? <;> rfl
  have hDp : ∀ i j : Nat, (j : Int) ∈ (closeAll n l).getD i default → ¬ Dl.getD j default ≤ Dl.getD i default := fun i j h => by
    rw [hDget, hDget]
    have := hdp i j h
    omega
  rw [← hDl] at hrl hrlen
  rw [d1] at hrl hrlen
  have hz : n - 1 = ((n.toNat - 1 : Nat) : Int) := by omega
  have hz2 : n.toNat - 1 < (rising Dl).length := by omega
  have hdn : ((Dl.length : Nat) : Int) = n := by omega
  have hMn : (((closeAll n l).length : Nat) : Int) = n := by omega
  have hr1000 : Dl.length ≤ 1000 := by omega
  have hlg : (maxN (deepR n l) : Int) + 1 = (longR n l : Int) := by omega
  simp (implicitDefEqProofs := false) (dsimp := false) only [deepw_call, call_call, hl62, hc, hchk, nD_ints, ← hDl, hdn, hMn, rise_callD, hr1000, hz, hz2, hrl, hlg, eval_nilI, ↓er_neq, ↓cdK_false, ↓gdK_f, ↓gval_mk, ↓gvL_zero, ↓gvL_succ, ↓atK_H, ↓atH_map, ↓nthK_H, ↓nthH_zero, ↓nthH_succ, ↓aw_cond, ↓aw_seq, ↓aw_block, ↓aw_skip, ↓aw_loop, ↓aw_reg, ↓Qseq_n, ↓ops_nil, ↓ops_cons, ↓ops_guard, ↓eval_tmp, ↓eval_int, ↓eval_func, ↓put_some, ↓bK_b, ↓iK_i, ↓lenK_l, ↓tK_t, ↓binE_i, ↓bi_add, ↓bi_sub, ↓bi_neq, ↓in_i64, ↓ldK_q, ↓iaK_l, ↓op_move, ↓op_assign, ↓op_pick, ↓op_load, ↓op_bin, ↓op_ia, ↓op_extract, ↓op_len, ↓op_call, isD_d, ↓fnK_f, ↓call_H, ↓callK_H, ↓allT_nil, ↓allT_cons, ↓td_d, ↓st_tm, ↓cells_c, ↓hd_cons, ↓ty3, ↓sl28, ↓sl44, List.getD_cons_zero, List.getD_cons_succ, List.set_cons_zero, List.set_cons_succ, List.append_nil, List.length_cons, List.length_nil, List.length_map, List.all_cons, List.all_nil, Bool.true_and, Bool.and_self, Bool.true_or, Nat.reduceAdd, Nat.reduceSub, Nat.reduceMul, Nat.zero_add, Int.toNat_natCast, evK_go, reduceIte, decide_true, Bool.not_true, Nat.reduceEqDiff, Nat.reduceLT, and_self, true_and, Int.zero_add, Int.natCast_nonneg]
  (repeat refine OrH.l ?_)
  refine ⟨by omega, by omega, ?_⟩
  generalize closeAll n l = M at *
  refine loopW (fun a : Nat => { tm := slots 130 [(0, .d (I .i64 n)), (1, .d (.l (l.map lnD))), (6, .d (I .i64 (longR n l : Int))), (8, .d (.l (Dl.map (I .i64)))), (10, .d (.l (M.map liD))), (13, .d (I .i64 a))], bx := [], rw := [] })
    (fun a => a ≤ n.toNat) (fun a => n.toNat - a) 0 (by simp) ?_ ?_
  · refine Wkn.of [] [] ?_; simp (implicitDefEqProofs := false) (dsimp := false) only [List.set_cons_zero, List.set_cons_succ, Bool.and_self, Nat.reduceAdd, Nat.reduceSub, Nat.reduceMul, List.replicate, evK_go, reduceIte, Nat.reduceEqDiff, Nat.reduceLT, and_self, List.foldl_cons, List.foldl_nil, Int.cast_ofNat_Int, slots, wkL_nil, wkL_cons, wkB_nil, wkR_nil, wkV_j, wkV_d, frz_d, reduceCtorEq]
  · intro a ha
    simp (implicitDefEqProofs := false) (dsimp := false) only [slots, ↓aw_cond, ↓aw_seq, ↓aw_reg, ↓Qseq_n, ↓ops_nil, ↓ops_cons, ↓eval_tmp, ↓put_some, ↓bK_b, ↓binE_i, ↓bi_lss, ↓op_move, ↓op_bin, List.getD_cons_zero, List.getD_cons_succ, List.set_cons_zero, List.set_cons_succ, Nat.reduceAdd, Nat.reduceSub, Nat.reduceMul, List.replicate, evK_go, reduceIte, Nat.reduceEqDiff, Nat.reduceLT, List.foldl_cons, List.foldl_nil]
    refine cdK_dec (fun h1 => ?_) (fun h1 => ?_)
    · have haM : a < M.length := by omega
      have haD : a < Dl.length := by omega
      have hsa := cw.sz a
      simp (implicitDefEqProofs := false) (dsimp := false) only [↓aw_seq, ↓aw_block, ↓aw_skip, ↓aw_loop, ↓aw_reg, ↓Qseq_n, ↓ops_nil, ↓ops_cons, ↓eval_int, ↓put_some, ↓op_assign, List.set_cons_zero, List.set_cons_succ, Nat.reduceAdd, Nat.reduceSub, Nat.reduceMul, evK_go, reduceIte, Nat.reduceEqDiff, Nat.reduceLT]
      refine loopW (fun k : Nat => { tm := slots 130 [(0, .d (I .i64 n)), (1, .d (.l (l.map lnD))), (6, .d (I .i64 (longR n l : Int))), (8, .d (.l (Dl.map (I .i64)))), (10, .d (.l (M.map liD))), (13, .d (I .i64 a)), (14, .d (I .i64 k))], bx := [], rw := [] })
        (fun k => k ≤ (M.getD a default).length) (fun k => (M.getD a default).length - k) 0 (by simp) ?_ ?_
      · refine Wkn.of [] [] ?_; simp (implicitDefEqProofs := false) (dsimp := false) only [List.set_cons_zero, List.set_cons_succ, Bool.and_self, Nat.reduceAdd, Nat.reduceSub, Nat.reduceMul, List.replicate, evK_go, reduceIte, Nat.reduceEqDiff, Nat.reduceLT, and_self, List.foldl_cons, List.foldl_nil, Int.cast_ofNat_Int, slots, wkL_nil, wkL_cons, wkB_nil, wkR_nil, wkV_j, wkV_d, frz_d, reduceCtorEq]
      · intro k hk
        simp (implicitDefEqProofs := false) (dsimp := false) only [slots, haM, liD, ↓atK_H, ↓atH_map, ↓aw_cond, ↓aw_seq, ↓aw_reg, ↓Qseq_n, ↓ops_nil, ↓ops_cons, ↓eval_tmp, ↓put_some, ↓bK_b, ↓iK_i, ↓lenK_l, ↓binE_i, ↓bi_lss, ↓ldK_q, ↓iaK_l, ↓op_move, ↓op_load, ↓op_bin, ↓op_ia, ↓op_len, ↓cells_l, ↓hd_cons, ↓ty28, ↓sl28, ↓sl44, List.getD_cons_zero, List.getD_cons_succ, List.set_cons_zero, List.set_cons_succ, List.length_cons, List.length_nil, List.length_map, Bool.true_and, Nat.reduceAdd, Nat.reduceSub, Nat.reduceMul, Nat.zero_add, Int.toNat_natCast, List.replicate, evK_go, reduceIte, Nat.reduceEqDiff, Nat.reduceLT, true_and, Int.zero_add, List.foldl_cons, List.foldl_nil, Int.ofNat_lt, Int.natCast_nonneg]
        refine cdK_dec (fun h2 => ?_) (fun h2 => ?_)
        · have hb := getD_mem h2
          obtain ⟨b, hb1, hb2, _⟩ := cw.pt a _ hb
          rw [hb1] at hb
          have hdd := hDp a b hb
          have hbD : b < Dl.length := by omega
          have hin : inB (b : Int) 0 (n - 1) = true := inB_iff.2 ⟨by omega, by omega⟩
          rw [hz] at hin
          simp (implicitDefEqProofs := false) (dsimp := false) only [haM, haD, hbD, h2, hb1, liD, hz, in2_callQ, hin, hdd, ↓cdK_false, ↓gdK_f, ↓gval_mk, ↓gvL_zero, ↓gvL_succ, ↓atK_H, ↓atH_map, ↓aw_cond, ↓aw_seq, ↓aw_block, ↓aw_skip, ↓aw_reg, ↓aw_draw, ↓Qseq_n, ↓Qblk_n, ↓ops_nil, ↓ops_cons, ↓eval_tmp, ↓eval_int, ↓eval_func, ↓put_some, ↓bK_b, ↓iK_i, ↓ev_move, ↓ev_pick, ↓ev_load, ↓ev_bin, ↓ev_not, ↓ev_ia, ↓binE_i, ↓bi_add, ↓bi_sub, ↓bi_geq, ↓in_i64, ↓ldK_q, ↓iaK_l, ↓op_move, ↓op_assign, ↓op_load, ↓op_bin, ↓op_ia, isD_d, ↓fnK_f, ↓callKQ_H, ↓allT_nil, ↓allT_cons, ↓td_d, ↓draw_H, ↓h_nil, ↓h_cons, ↓ldH_n, ↓ldH_g, ↓q_call, ↓q_move, ↓q_pick, ↓q_load, ↓q_bin, ↓q_un, ↓q_ia, ↓il_move, ↓il_pick, ↓il_load, ↓il_bin, ↓il_un, ↓il_ia, ↓il_call, ↓st_tm, ↓cells_c, ↓cells_l, ↓hd_cons, ↓ty3, ↓ty28, ↓sl28, ↓sl44, List.getD_cons_zero, List.getD_cons_succ, List.set_cons_zero, List.set_cons_succ, List.append_nil, List.length_cons, List.length_nil, List.all_cons, List.all_nil, Bool.true_and, Bool.and_self, Bool.true_or, Nat.reduceAdd, Nat.reduceSub, Nat.reduceMul, Nat.zero_add, Int.toNat_natCast, evK_go, reduceIte, decide_true, decide_false, Bool.not_true, Nat.reduceEqDiff, Nat.reduceLT, and_self, true_and, Int.zero_add, Int.natCast_nonneg]
          refine OrH.l ⟨DrawH.of follows_mixed (by kernel_rfl), by omega, ?_⟩
          (repeat refine OrH.l ?_)
          refine ⟨by omega, k + 1, by omega, by omega, ?_⟩
          refine Wkn.of [] [] ?_; simp (implicitDefEqProofs := false) (dsimp := false) only [List.set_cons_zero, List.set_cons_succ, Bool.and_self, Nat.reduceAdd, Nat.reduceSub, Nat.reduceMul, List.replicate, evK_go, reduceIte, Nat.reduceEqDiff, Nat.reduceLT, and_self, List.foldl_cons, List.foldl_nil, Int.cast_ofNat_Int, Int.natCast_add, slots, wkL_nil, wkL_cons, wkB_nil, wkR_nil, wkV_j, wkV_d, frz_d, reduceCtorEq]
        · simp (implicitDefEqProofs := false) (dsimp := false) only [↓aw_seq, ↓aw_exit, ↓aw_reg, ↓Qseq_n, ↓Qseq_x, ↓Qblk_n, ↓Qblk_x, ↓ops_nil, ↓ops_cons, ↓eval_tmp, ↓eval_int, ↓eval_func, ↓put_some, ↓binE_i, ↓bi_add, ↓in_i64, ↓op_move, ↓op_assign, ↓op_bin, ↓op_call, isD_d, ↓fnK_f, ↓call_H, ↓callK_H, ↓allT_nil, ↓allT_cons, ↓td_d, List.getD_cons_zero, List.getD_cons_succ, List.set_cons_zero, List.set_cons_succ, List.append_nil, List.all_cons, List.all_nil, Bool.and_self, Nat.reduceAdd, Nat.reduceSub, Nat.reduceMul, evK_go, reduceIte, Nat.reduceEqDiff, Nat.reduceLT, and_self]
          refine ⟨by omega, a + 1, by omega, by omega, ?_⟩
          refine Wkn.of [] [] ?_; simp (implicitDefEqProofs := false) (dsimp := false) only [List.set_cons_zero, List.set_cons_succ, Bool.and_self, Nat.reduceAdd, Nat.reduceSub, Nat.reduceMul, List.replicate, evK_go, reduceIte, Nat.reduceEqDiff, Nat.reduceLT, and_self, List.foldl_cons, List.foldl_nil, Int.cast_ofNat_Int, Int.natCast_add, slots, wkL_nil, wkL_cons, wkB_nil, wkR_nil, wkV_j, wkV_d, frz_d, reduceCtorEq]
    · simp (implicitDefEqProofs := false) (dsimp := false) only [widest_call, hl62, eval_nilI, ↓er_neq, ↓cdK_not, ↓gdK_t, ↓gval_mk, ↓gvL_zero, ↓gvL_succ, ↓nthK_H, ↓nthH_zero, ↓nthH_succ, ↓aw_seq, ↓aw_exit, ↓aw_reg, ↓Qseq_n, ↓Qseq_x, ↓Qblk_x, ↓ops_nil, ↓ops_cons, ↓ops_guard, ↓eval_tmp, ↓eval_func, ↓put_some, ↓tK_t, ↓op_move, ↓op_assign, ↓op_bin, ↓op_extract, ↓op_call, isD_d, ↓fnK_f, ↓call_H, ↓callK_H, ↓allT_nil, ↓allT_cons, ↓td_d, ↓st_tm, List.getD_cons_zero, List.getD_cons_succ, List.set_cons_zero, List.set_cons_succ, List.append_nil, List.all_cons, List.all_nil, Bool.true_and, Bool.and_self, Bool.true_or, Nat.reduceAdd, Nat.reduceSub, Nat.reduceMul, evK_go, reduceIte, Nat.reduceEqDiff, Nat.reduceLT, and_self, true_and]
      (repeat refine OrH.l ?_)
      by_cases h6 : 6 < n
      · rw [if_pos h6] at hce
        rw [hce]
        have hd6 : decide (6 < n) = true := decide_eq_true h6
        have hd4 : decide ((4 : Int) = 0) = false := rfl
        simp (implicitDefEqProofs := false) (dsimp := false) only [hd4, hd6, ↓cdK_true, ↓cdK_false, ↓gdK_junk, ↓gdK_t, ↓gdK_f, ↓gval_mk, ↓gvL_zero, ↓gvL_succ, ↓aw_ret, ↓Qseq_n, ↓Qret_r, ↓ops_nil, ↓ops_cons, ↓ops_guard, ↓eval_tmp, ↓eval_int, ↓eval_bool, ↓put_some, ↓bK_b, ↓binE_i, ↓bi_gtr, ↓op_move, ↓op_assign, ↓op_pick, ↓op_bin, ↓td_d, ↓ret_1, ↓st_tm, List.getD_cons_zero, List.getD_cons_succ, List.set_cons_zero, List.set_cons_succ, Nat.reduceAdd, Nat.reduceSub, Nat.reduceMul, evK_go, reduceIte, Bool.not_false, Nat.reduceEqDiff, Nat.reduceLT]
      · rw [if_neg h6] at hce
        have hmk := hmk hce
        have hrg := hrg hce
        have hge : decide (n ≤ (longR n l : Int) * rowsR n l) = true := decide_eq_true hmk
        rw [hce]
        simp (implicitDefEqProofs := false) (dsimp := false) only [hge, eval_nilI, ↓er_eql, ↓cdK_true, ↓cdK_false, ↓gdK_t, ↓gdK_f, ↓gval_mk, ↓gvL_zero, ↓gvL_succ, ↓aw_ret, ↓Qseq_n, ↓Qret_r, ↓ops_nil, ↓ops_cons, ↓ops_guard, ↓eval_tmp, ↓eval_bool, ↓put_some, ↓bK_b, ↓binE_i, ↓bi_mul, ↓bi_geq, ↓in_i64, ↓op_move, ↓op_assign, ↓op_pick, ↓op_bin, ↓td_d, ↓ret_1, ↓st_tm, List.getD_cons_zero, List.getD_cons_succ, List.set_cons_zero, List.set_cons_succ, Bool.and_true, Nat.reduceAdd, Nat.reduceSub, Nat.reduceMul, evK_go, reduceIte, decide_true, Bool.not_true, Nat.reduceEqDiff, Nat.reduceLT, and_true]
        have hb1 : (longR n l : Int) * rowsR n l ≤ 1001 * 8 := Int.mul_le_mul (by omega) (by omega) (by omega) (by omega)
        omega
end Go.Proofs

namespace Go.Proofs
set_option maxRecDepth 100000
theorem cutNo : ("cut".toList == "gc".toList || "cut".toList == "spec".toList) = false := by kernel_rfl
theorem cutNo2 : ("cut".toList == "carried".toList) = false := by kernel_rfl
theorem cutStrip (T : List (List Char)) : stripLifts liftWords ("cut".toList :: T) = ([], "cut".toList :: T) := by kernel_rfl
theorem make_of {P : Program} {T : List (List Char)} (h : behindMainWord (wordsSigns P.initOrder.toList) = "cut".toList :: T) : P.make = some .cut := by
  unfold Program.make
  rw [h]
  simp (implicitDefEqProofs := false) (dsimp := false) only [cutNo, beq_self_eq_true, Bool.true_or, Bool.false_eq_true, if_false, if_true]
theorem enter_of {P : Program} {T : List (List Char)} (h : behindMainWord (wordsSigns P.initOrder.toList) = "cut".toList :: T) (h1 : P.laysLater = false) (h2 : P.bearsReflect = false) (h3 : P.doorRows = []) : P.mayEnter = true := by
  unfold Program.mayEnter
  rw [h]
  simp (implicitDefEqProofs := false) (dsimp := false) only [cutStrip, cutNo, cutNo2, h1, h2, Program.doorFits, h3, List.head?_cons, beq_self_eq_true, Bool.not_false, Bool.or_true, Bool.and_true, Bool.true_and]
  rfl
theorem final_of {P : Program} {T : List (List Char)} (h : behindMainWord (wordsSigns P.initOrder.toList) = "cut".toList :: T) : P.liftsFinal = false := by
  unfold Program.liftsFinal Program.headLifts
  rw [h]
  simp (implicitDefEqProofs := false) (dsimp := false) only [cutStrip]
  kernel_rfl
theorem cutWord : behindMainWord (wordsSigns Try.prog.initOrder.toList) = "cut".toList :: (behindMainWord (wordsSigns Try.prog.initOrder.toList)).tail := by
  have h : Try.prog.initOrder.toList = _ := String.toList_ofList
  rw [h]
  show (_ : List (List Char)) = _
  kernel_rfl
theorem pLater : Try.prog.laysLater = false := by
  unfold Program.laysLater
  rw [← Array.any_toList]
  kernel_rfl
theorem pReflect : Try.prog.bearsReflect = false := by kernel_rfl
theorem pDoor : Try.prog.doorRows = [] := by kernel_rfl
theorem pMake : Try.prog.make = some .cut := make_of cutWord
theorem pEnter : Try.prog.mayEnter = true := enter_of cutWord pLater pReflect pDoor
theorem pFinal : Try.prog.liftsFinal = false := final_of cutWord
theorem pLaid : laidOutB Try.prog = true := by kernel_rfl
theorem pRowed : mapsRowed Try.prog = true := by kernel_rfl
theorem pStops : (Try.prog.stops == []) = true := by kernel_rfl
theorem pKnobs : (Try.prog.stopKnobs == []) = true := by kernel_rfl
theorem pHeard : Try.prog.stopsHeard = true := by kernel_rfl
theorem pOwn : ownKnob Try.prog.godebug = none := by kernel_rfl
theorem andB {a b : Bool} (ha : a = true) (hb : b = true) : (a && b) = true := by rw [ha, hb]; rfl
end Go.Proofs
