/- Part W 3 of what the proof of HalvesLess stands on: what the functions of the program compute. -/
import Derived.Test.YtblhpmhfhpmifaaW2
set_option linter.unusedVariables false
set_option linter.unusedSimpArgs false
namespace Go.Proofs
open Go.Aw
set_option linter.unusedSimpArgs false
set_option maxRecDepth 10000
/-- All but one. -/
def butK {α : Type} [Inhabited α] (l : List α) (k : Int) (i : Nat) : List α := ((List.range i).filter fun j : Nat => !decide ((j : Int) = k)).map fun j => l.getD j default
def butL {α : Type} [Inhabited α] (l : List α) (k : Int) : List α := butK l k l.length
theorem butK_succ {α : Type} [Inhabited α] (l : List α) (k : Int) (i : Nat) : butK l k (i + 1) = if (i : Int) = k then butK l k i else butK l k i ++ [l.getD i default] := by
  unfold butK
  rw [List.range_succ, List.filter_append, List.map_append]
  by_cases h : (i : Int) = k <;> simp [h]
theorem butK_len {α : Type} [Inhabited α] (l : List α) (k : Int) (i : Nat) : (butK l k i).length ≤ i := by
  unfold butK
  rw [List.length_map]
  exact Nat.le_trans (List.length_filter_le _ _) (by simp)
theorem but_mem {α : Type} [Inhabited α] {l : List α} {k : Int} {x : α} (h : x ∈ butL l k) : x ∈ l := by
  obtain ⟨j, hj, rfl⟩ := List.mem_map.1 h
  exact getD_mem (by simpa using (List.mem_filter.1 hj).1)
theorem but_map {α β : Type} [Inhabited α] [Inhabited β] (f : α → β) (l : List α) (k : Int) : butL (l.map f) k = (butL l k).map f := by
  unfold butL butK
  rw [List.length_map, List.map_map]
  refine List.map_congr_left fun j hj => ?_
  have : j < l.length := by simpa using (List.mem_filter.1 hj).1
  simp [List.getD_eq_getElem?_getD, this]
theorem but_erase {α : Type} [Inhabited α] (l : List α) (k : Nat) (hk : k < l.length) : butL l (k : Int) = l.eraseIdx k := by
  have key : ∀ i, i ≤ l.length → butK l (k : Int) i = if k < i then (l.take i).eraseIdx k else l.take i := by
    intro i
    induction i with
    | zero => intro _; simp [butK]
    | succ i ih =>
      intro hi
      rw [butK_succ, ih (by omega)]
      rcases Nat.lt_trichotomy i k with h | h | h
      · rw [if_neg (by omega), if_neg (by omega), if_neg (by omega), take_succ_getD (by omega)]
      · subst h
        rw [if_pos rfl, if_neg (by omega), if_pos (by omega), take_succ_getD (by omega), List.eraseIdx_append_of_length_le (by simp; omega)]
        simp [show min i l.length = i by omega]
      · rw [if_neg (by omega), if_pos h, if_pos (by omega), take_succ_getD (by omega), List.eraseIdx_append_of_lt_length (by simp; omega)]
  have := key l.length (Nat.le_refl _)
  rw [if_pos hk, List.take_length] at this
  exact this
theorem but_spec (l : List (Int × Int)) (k : Int) (hpre : l.length < 2 ^ 43) : FnR Try.prog 41 [.l (l.map lnD), I .i64 k] 2 ((butL l k).map lnD) := by
  refine FnR.go Try.func41 rfl rfl Try.results41 Try.ntmps41 ?_
  simp (implicitDefEqProofs := false) (dsimp := false) only [↓aw_seq, ↓aw_block, ↓aw_loop, ↓aw_reg, ↓Qseq_n, ↓ops_nil, ↓ops_cons, ↓eval_int, ↓eval_nil, ↓put_some, ↓op_assign, List.set_cons_zero, List.set_cons_succ, List.cons_append, List.nil_append, List.map_cons, List.map_nil, List.length_cons, List.length_nil, Nat.reduceAdd, Nat.reduceSub, Nat.reduceMul, Nat.zero_add, List.replicate, evK_go, reduceIte, Nat.reduceEqDiff, Nat.reduceLT, Int.zero_add]
  refine loopW (fun i : Nat => { tm := slots 24 [(0, .d (.l (l.map lnD))), (1, .d (I .i64 k)), (5, .o 0 0 (butK l k i).length), (6, .d (I .i64 i))], bx := [], rw := [some ⟨2, (butK l k i).map lnD⟩] })
    (fun i => i ≤ l.length) (fun i => l.length - i) 0 (by simp) ?_ ?_
  · refine Wkn.of [] [none] ?_
    simp (implicitDefEqProofs := false) (dsimp := false) only [butK, List.range_zero, List.filter_nil, ↓row_xs, List.set_cons_zero, List.set_cons_succ, List.map_nil, List.length_nil, Bool.and_self, Nat.reduceAdd, Nat.reduceSub, Nat.reduceMul, List.replicate, evK_go, reduceIte, Nat.reduceEqDiff, Nat.reduceLT, and_self, List.foldl_cons, List.foldl_nil, Int.cast_ofNat_Int, slots, wkL_nil, wkL_cons, wkB_nil, wkR_nil, wkR_new, wkV_j, wkV_d, nlK_nl, wkV_o, frz_d, oK_zn, reduceCtorEq]
  · intro i hi
    simp (implicitDefEqProofs := false) (dsimp := false) only [slots, ↓aw_cond, ↓aw_seq, ↓aw_reg, ↓Qseq_n, ↓ops_nil, ↓ops_cons, ↓eval_tmp, ↓put_some, ↓bK_b, ↓lenK_l, ↓binE_i, ↓bi_lss, ↓op_move, ↓op_bin, ↓op_len, ↓sl22, List.getD_cons_zero, List.getD_cons_succ, List.set_cons_zero, List.set_cons_succ, List.length_map, Nat.reduceAdd, Nat.reduceSub, Nat.reduceMul, List.replicate, evK_go, reduceIte, Nat.reduceEqDiff, Nat.reduceLT, List.foldl_cons, List.foldl_nil, Int.ofNat_lt]
    refine cdK_dec (fun h => ?_) (fun h => ?_)
    · have hlen := butK_len l k i
      simp (implicitDefEqProofs := false) (dsimp := false) only [↓cdK_not, ↓aw_cond, ↓aw_seq, ↓aw_block, ↓aw_skip, ↓aw_reg, ↓Qseq_n, ↓ops_nil, ↓ops_cons, ↓eval_tmp, ↓put_some, ↓bK_b, ↓binE_i, ↓bi_neq, ↓op_move, ↓op_bin, List.getD_cons_zero, List.getD_cons_succ, List.set_cons_zero, List.set_cons_succ, Nat.reduceAdd, Nat.reduceSub, Nat.reduceMul, evK_go, reduceIte, Nat.reduceEqDiff, Nat.reduceLT]
      refine cdK_dec (fun hb => ?_) (fun hb => ?_)
      · simp (implicitDefEqProofs := false) (dsimp := false) only [↓aw_skip, ↓aw_reg, ↓Qseq_n, ↓Qblk_n, ↓ops_nil, ↓ops_cons, ↓eval_tmp, ↓eval_int, ↓put_some, ↓binE_i, ↓bi_add, ↓in_i64, ↓op_move, ↓op_assign, ↓op_bin, List.getD_cons_zero, List.getD_cons_succ, List.set_cons_zero, List.set_cons_succ, Nat.reduceAdd, Nat.reduceSub, Nat.reduceMul, evK_go, reduceIte, Nat.reduceEqDiff, Nat.reduceLT]
        refine ⟨by omega, i + 1, by omega, by omega, ?_⟩
        refine Wkn.of [] [some 0] ?_
        simp (implicitDefEqProofs := false) (dsimp := false) only [butK_succ, hb, List.getD_cons_zero, List.set_cons_zero, List.set_cons_succ, Bool.and_self, Nat.reduceAdd, Nat.reduceSub, Nat.reduceMul, List.replicate, evK_go, reduceIte, decide_true, Bool.not_true, Nat.reduceEqDiff, Nat.reduceLT, and_self, List.foldl_cons, List.foldl_nil, Int.cast_ofNat_Int, Int.natCast_add, slots, wkL_nil, wkL_cons, wkB_nil, wkR_nil, wkR_some, wkV_j, wkV_d, wkV_o, frz_d, oK_zs, reduceCtorEq]
      · simp (implicitDefEqProofs := false) (dsimp := false) only [h, lnD_cells, ↓optK_some, ↓rwK_mk_, ↓atK_H, ↓atH_map, ↓aw_reg, ↓Qseq_n, ↓Qblk_n, ↓ops_nil, ↓ops_cons, ↓eval_tmp, ↓eval_int, ↓put_some, ↓iK_i, ↓dK_d, ↓binE_i, ↓bi_add, ↓in_i64, ↓ldK_q, ↓iaK_l, ↓op_move, ↓op_assign, ↓op_load, ↓op_bin, ↓op_ia, ↓op_append, ↓allD_nil, ↓allD_cons, ↓app_mk, ↓row_sz, ↓row_xs, kill_d, kill_j, kill_o, ↓cells_s, ↓one_i, ↓ap_, ↓ap_o, ↓src_l, ↓bs_, ↓op_bs, ↓bsL_f, ↓stored_mk, ↓sl_nil, ↓sl_cons, ↓sT_move, ↓sT_assign, ↓sT_load, ↓sT_ia, ↓sT_bs, ↓sT_call, ↓vsz_agg, ↓inO_1, ↓fm_nil, ↓fm_cons, ↓sl22, ↓ty35, ↓zb35, List.getD_cons_zero, List.getD_cons_succ, List.set_cons_zero, List.set_cons_succ, List.map_cons, List.map_nil, List.length_cons, List.length_nil, List.length_map, List.all_cons, List.all_nil, Bool.true_and, Bool.and_self, Bool.or_false, Nat.reduceAdd, Nat.reduceSub, Nat.reduceMul, Nat.zero_add, Int.toNat_natCast, evK_go, reduceIte, decide_true, Nat.reduceEqDiff, Nat.reduceLT, and_self, true_and, Int.zero_add, List.drop_zero, List.take_succ_cons, List.take_nil, Int.natCast_nonneg]
        refine ⟨by decide, ⟨rfl, by decide⟩, rfl, ⟨fun _ => trivial, by omega, by omega⟩, by omega, i + 1, by omega, by omega, ?_⟩
        refine Wkn.of [] [some 0] ?_
        simp (implicitDefEqProofs := false) (dsimp := false) only [butK_succ, hb, List.map_append, List.length_append, lnD, List.getD_cons_zero, List.set_cons_zero, List.set_cons_succ, List.map_cons, List.map_nil, List.length_cons, List.length_nil, Bool.and_self, Nat.reduceAdd, Nat.reduceSub, Nat.reduceMul, Nat.zero_add, List.replicate, evK_go, reduceIte, decide_false, Bool.not_false, Nat.reduceEqDiff, Nat.reduceLT, and_self, Int.zero_add, List.foldl_cons, List.foldl_nil, Int.cast_ofNat_Int, Int.natCast_add, slots, wkL_nil, wkL_cons, wkB_nil, wkR_nil, wkR_some, wkV_j, wkV_d, wkV_o, frz_d, oK_zs, reduceCtorEq]
    · obtain rfl : i = l.length := by omega
      simp (implicitDefEqProofs := false) (dsimp := false) only [↓optK_some, ↓rwK_mk_, ↓aw_seq, ↓aw_exit, ↓aw_ret, ↓aw_reg, ↓Qseq_n, ↓Qseq_x, ↓Qblk_x, ↓ops_nil, ↓ops_cons, ↓eval_tmp, ↓put_some, ↓op_move, ↓op_assign, ↓row_sz, ↓row_xs, ↓take_map, ↓Qrow_r, ↓rowK_o, List.getD_cons_zero, List.getD_cons_succ, List.set_cons_zero, List.set_cons_succ, Bool.true_and, Nat.reduceAdd, Nat.reduceSub, Nat.reduceMul, evK_go, reduceIte, decide_false, Nat.reduceEqDiff, Nat.reduceLT, true_and, Nat.lt_irrefl]
      rfl
theorem but_call (l : List (Int × Int)) (k : Int) (pure : Bool) (σ : St) (dst : Option Tmp) (K : St → Prop) : CallH Try.prog 41 [.l (l.map lnD), I .i64 k] pure σ dst (.mk : Hid K) = OrH ((l.length < 2 ^ 43) ∧ (pure || Res.flat (.row 2 ((butL l k).map lnD))) = true ∧ evK ((σ.addRow ⟨2, (butL l k).map lnD⟩).put dst (.o σ.rw.length 0 (List.length ((butL l k).map lnD)))) (.mk : Hid K)) (.mk : Hid (CallH Try.prog 41 [.l (l.map lnD), I .i64 k] pure σ dst (.mk : Hid K))) := CallH.eqR (fun h => but_spec l k h) pure σ dst K
theorem but_callD (l : List (Int × Int)) (k : Int) (pure : Bool) (σ : St) (dst : Option Tmp) (K : St → Prop) : CallH Try.prog 41 [.l (l.map lnD), I .i64 k] pure σ dst (.mk : Hid K) = OrH ((l.length < 2 ^ 43) ∧ (pure || D.flat (.l ((butL l k).map lnD))) = true ∧ evK (σ.put dst (.d (.l ((butL l k).map lnD)))) (.mk : Hid K)) (.mk : Hid (CallH Try.prog 41 [.l (l.map lnD), I .i64 k] pure σ dst (.mk : Hid K))) := CallH.eq (fun h => ((fun h => but_spec l k h) h).data) pure σ dst K
theorem but_callDQ (l : List (Int × Int)) (k : Int) (pure : Bool) (C : V → Prop) : CallQ Try.prog 41 [.l (l.map lnD), I .i64 k] pure (.mk : Hid C) = OrH ((l.length < 2 ^ 43) ∧ (pure || D.flat (.l ((butL l k).map lnD))) = true ∧ evK (V.d (.l ((butL l k).map lnD))) (.mk : Hid C)) (.mk : Hid (CallQ Try.prog 41 [.l (l.map lnD), I .i64 k] pure (.mk : Hid C))) := CallQ.eq (fun h => ((fun h => but_spec l k h) h).data) pure C
/-- The place of a number. -/
def place (l : List Int) (n : Int) : Int := if n ∈ l then (l.idxOf n : Nat) else -1
theorem place_at {l : List Int} {n : Int} {k : Nat} (h : k < l.length) (h0 : n ∉ l.take k) (e : l.getD k default = n) : place l n = k := by
  have hm : n ∈ l := by rw [← e]; exact getD_mem h
  unfold place
  rw [if_pos hm]
  have h1 : l = l.take k ++ n :: l.drop (k + 1) := by
    conv => lhs; rw [← List.take_append_drop k l]
    congr 1
    rw [List.drop_eq_getElem_cons h]
    congr 1
    rw [← e, List.getD_eq_getElem?_getD, List.getElem?_eq_getElem h]; rfl
  rw [h1, List.idxOf_append, if_neg h0]
  simp; omega
theorem place_spec (l : List Int) (n : Int) (hpre : l.length < 2 ^ 62) : FnD Try.prog 48 [.l (l.map (I .i64)), I .i64 n] (I .i64 (place l n)) := by
  refine FnD.go Try.func48 rfl rfl Try.results48 Try.ntmps48 ?_
  simp (implicitDefEqProofs := false) (dsimp := false) only [↓aw_seq, ↓aw_block, ↓aw_loop, ↓aw_reg, ↓Qseq_n, ↓ops_nil, ↓ops_cons, ↓eval_int, ↓put_some, ↓op_assign, List.set_cons_zero, List.set_cons_succ, List.cons_append, List.nil_append, List.map_cons, List.map_nil, List.length_cons, List.length_nil, Nat.reduceAdd, Nat.reduceSub, Nat.reduceMul, Nat.zero_add, List.replicate, evK_go, reduceIte, Nat.reduceEqDiff, Nat.reduceLT, Int.zero_add]
  refine loopW (fun k : Nat => { tm := slots 19 [(0, .d (.l (l.map (I .i64)))), (1, .d (I .i64 n)), (5, .d (I .i64 k))], bx := [], rw := [] })
    (fun k => k ≤ l.length ∧ n ∉ l.take k) (fun k => l.length - k) 0 ⟨by simp, by simp⟩ ?_ ?_
  · refine Wkn.of [] [] ?_
    simp (implicitDefEqProofs := false) (dsimp := false) only [List.set_cons_zero, List.set_cons_succ, Bool.and_self, Nat.reduceAdd, Nat.reduceSub, Nat.reduceMul, List.replicate, evK_go, reduceIte, Nat.reduceEqDiff, Nat.reduceLT, and_self, List.foldl_cons, List.foldl_nil, Int.cast_ofNat_Int, slots, wkL_nil, wkL_cons, wkB_nil, wkR_nil, wkV_j, wkV_d, frz_d, reduceCtorEq]
  · rintro k ⟨h1, h2⟩
    simp (implicitDefEqProofs := false) (dsimp := false) only [slots, ↓aw_cond, ↓aw_seq, ↓aw_reg, ↓Qseq_n, ↓ops_nil, ↓ops_cons, ↓eval_tmp, ↓put_some, ↓bK_b, ↓lenK_l, ↓binE_i, ↓bi_lss, ↓op_move, ↓op_bin, ↓op_len, ↓sl28, List.getD_cons_zero, List.getD_cons_succ, List.set_cons_zero, List.set_cons_succ, List.length_map, Nat.reduceAdd, Nat.reduceSub, Nat.reduceMul, List.replicate, evK_go, reduceIte, Nat.reduceEqDiff, Nat.reduceLT, List.foldl_cons, List.foldl_nil, Int.ofNat_lt]
    refine cdK_dec (fun h => ?_) (fun h => ?_)
    · simp (implicitDefEqProofs := false) (dsimp := false) only [h, ↓atK_H, ↓atH_map, ↓aw_cond, ↓aw_seq, ↓aw_block, ↓aw_skip, ↓aw_reg, ↓Qseq_n, ↓ops_nil, ↓ops_cons, ↓eval_tmp, ↓put_some, ↓bK_b, ↓iK_i, ↓binE_i, ↓bi_eql, ↓ldK_q, ↓iaK_l, ↓op_move, ↓op_load, ↓op_bin, ↓op_ia, ↓cells_c, ↓hd_cons, ↓ty3, ↓sl28, List.getD_cons_zero, List.getD_cons_succ, List.set_cons_zero, List.set_cons_succ, List.length_cons, List.length_nil, Bool.true_and, Nat.reduceAdd, Nat.reduceSub, Nat.reduceMul, Nat.zero_add, Int.toNat_natCast, evK_go, reduceIte, decide_true, Nat.reduceEqDiff, Nat.reduceLT, true_and, Int.zero_add, Int.natCast_nonneg]
      refine cdK_dec (fun hb => ?_) (fun hb => ?_)
      · have := place_at h h2 hb
        simp (implicitDefEqProofs := false) (dsimp := false) only [this, ↓aw_seq, ↓aw_ret, ↓aw_reg, ↓Qseq_n, ↓Qseq_r, ↓Qblk_r, ↓Qret_r, ↓ops_nil, ↓ops_cons, ↓eval_tmp, ↓put_some, ↓op_move, ↓op_assign, ↓td_d, ↓ret_1, List.getD_cons_zero, List.getD_cons_succ, List.set_cons_zero, List.set_cons_succ, Nat.reduceAdd, Nat.reduceSub, Nat.reduceMul, evK_go, reduceIte, Nat.reduceEqDiff, Nat.reduceLT]
      · simp (implicitDefEqProofs := false) (dsimp := false) only [↓aw_skip, ↓aw_reg, ↓Qseq_n, ↓Qblk_n, ↓ops_nil, ↓ops_cons, ↓eval_tmp, ↓eval_int, ↓put_some, ↓binE_i, ↓bi_add, ↓in_i64, ↓op_move, ↓op_assign, ↓op_bin, List.getD_cons_zero, List.getD_cons_succ, List.set_cons_zero, List.set_cons_succ, Nat.reduceAdd, Nat.reduceSub, Nat.reduceMul, evK_go, reduceIte, Nat.reduceEqDiff, Nat.reduceLT]
        refine ⟨by omega, k + 1, ⟨by omega, ?_⟩, by omega, ?_⟩
        · rw [take_succ_getD h, List.mem_append, List.mem_singleton]
          exact fun h' => h'.elim h2 (fun e => hb e.symm)
        · refine Wkn.of [] [] ?_
          simp (implicitDefEqProofs := false) (dsimp := false) only [List.set_cons_zero, List.set_cons_succ, Bool.and_self, Nat.reduceAdd, Nat.reduceSub, Nat.reduceMul, List.replicate, evK_go, reduceIte, Nat.reduceEqDiff, Nat.reduceLT, and_self, List.foldl_cons, List.foldl_nil, Int.cast_ofNat_Int, Int.natCast_add, slots, wkL_nil, wkL_cons, wkB_nil, wkR_nil, wkV_j, wkV_d, frz_d, reduceCtorEq]
    · obtain rfl : k = l.length := by omega
      rw [List.take_length] at h2
      have : place l n = -1 := if_neg h2
      simp (implicitDefEqProofs := false) (dsimp := false) only [this, ↓aw_seq, ↓aw_exit, ↓aw_ret, ↓aw_reg, ↓Qseq_n, ↓Qseq_x, ↓Qblk_x, ↓Qret_r, ↓ops_nil, ↓ops_cons, ↓eval_tmp, ↓eval_int, ↓put_some, ↓op_assign, ↓td_d, ↓ret_1, List.getD_cons_zero, List.getD_cons_succ, List.set_cons_zero, List.set_cons_succ, Nat.reduceAdd, Nat.reduceSub, Nat.reduceMul, evK_go, reduceIte, decide_false, Nat.reduceEqDiff, Nat.reduceLT, Nat.lt_irrefl]
theorem place_call (l : List Int) (n : Int) (pure : Bool) (σ : St) (dst : Option Tmp) (K : St → Prop) : CallH Try.prog 48 [.l (l.map (I .i64)), I .i64 n] pure σ dst (.mk : Hid K) = OrH ((l.length < 2 ^ 62) ∧ (pure || D.flat (I .i64 (place l n))) = true ∧ evK (σ.put dst (.d (I .i64 (place l n)))) (.mk : Hid K)) (.mk : Hid (CallH Try.prog 48 [.l (l.map (I .i64)), I .i64 n] pure σ dst (.mk : Hid K))) := CallH.eq (place_spec l n) pure σ dst K
theorem place_callQ (l : List Int) (n : Int) (pure : Bool) (C : V → Prop) : CallQ Try.prog 48 [.l (l.map (I .i64)), I .i64 n] pure (.mk : Hid C) = OrH ((l.length < 2 ^ 62) ∧ (pure || D.flat (I .i64 (place l n))) = true ∧ evK (V.d (I .i64 (place l n))) (.mk : Hid C)) (.mk : Hid (CallQ Try.prog 48 [.l (l.map (I .i64)), I .i64 n] pure (.mk : Hid C))) := CallQ.eq (place_spec l n) pure C
/-- How many are false. -/
def missN (l : List Bool) : Nat := l.countP fun b => !b
theorem miss_succ {l : List Bool} {k : Nat} (h : k < l.length) : missN (l.take (k + 1)) = missN (l.take k) + if l.getD k default then 0 else 1 := by
  rw [take_succ_getD h, missN, List.countP_append]
  cases l.getD k default <;> simp [missN]
theorem miss_le (l : List Bool) : missN l ≤ l.length := List.countP_le_length
theorem misses_spec (l : List Bool) (hpre : l.length < 2 ^ 62) : FnD Try.prog 34 [.l (l.map Bo)] (I .i64 (missN l : Nat)) := by
  refine FnD.go Try.func34 rfl rfl Try.results34 Try.ntmps34 ?_
  simp (implicitDefEqProofs := false) (dsimp := false) only [↓aw_seq, ↓aw_block, ↓aw_loop, ↓aw_reg, ↓Qseq_n, ↓ops_nil, ↓ops_cons, ↓eval_int, ↓put_some, ↓op_assign, List.set_cons_zero, List.set_cons_succ, List.cons_append, List.nil_append, List.map_cons, List.map_nil, List.length_cons, List.length_nil, Nat.reduceAdd, Nat.reduceSub, Nat.reduceMul, Nat.zero_add, List.replicate, evK_go, reduceIte, Nat.reduceEqDiff, Nat.reduceLT, Int.zero_add]
  refine loopW (fun k : Nat => { tm := slots 19 [(0, .d (.l (l.map Bo))), (3, .d (I .i64 (missN (l.take k) : Nat))), (4, .d (I .i64 k))], bx := [], rw := [] })
    (fun k => k ≤ l.length) (fun k => l.length - k) 0 (by simp) ?_ ?_
  · refine Wkn.of [] [] ?_
    simp (implicitDefEqProofs := false) (dsimp := false) only [missN, List.countP_nil, List.set_cons_zero, List.set_cons_succ, Bool.and_self, Nat.reduceAdd, Nat.reduceSub, Nat.reduceMul, List.replicate, evK_go, reduceIte, Nat.reduceEqDiff, Nat.reduceLT, and_self, List.take_zero, List.foldl_cons, List.foldl_nil, Int.cast_ofNat_Int, slots, wkL_nil, wkL_cons, wkB_nil, wkR_nil, wkV_j, wkV_d, frz_d, reduceCtorEq]
  · rintro k h1
    simp (implicitDefEqProofs := false) (dsimp := false) only [slots, ↓aw_cond, ↓aw_seq, ↓aw_reg, ↓Qseq_n, ↓ops_nil, ↓ops_cons, ↓eval_tmp, ↓put_some, ↓bK_b, ↓lenK_l, ↓binE_i, ↓bi_lss, ↓op_move, ↓op_bin, ↓op_len, ↓sl38, List.getD_cons_zero, List.getD_cons_succ, List.set_cons_zero, List.set_cons_succ, List.length_map, Nat.reduceAdd, Nat.reduceSub, Nat.reduceMul, List.replicate, evK_go, reduceIte, Nat.reduceEqDiff, Nat.reduceLT, List.foldl_cons, List.foldl_nil, Int.ofNat_lt]
    have hm := miss_le (l.take k)
    rw [List.length_take] at hm
    refine cdK_dec (fun h => ?_) (fun h => ?_)
    · simp (implicitDefEqProofs := false) (dsimp := false) only [h, ↓cdK_not, ↓atK_H, ↓atH_map, ↓aw_cond, ↓aw_seq, ↓aw_block, ↓aw_skip, ↓aw_reg, ↓Qseq_n, ↓ops_nil, ↓ops_cons, ↓eval_tmp, ↓put_some, ↓bK_b, ↓iK_i, ↓ldK_q, ↓iaK_l, ↓op_move, ↓op_load, ↓op_not, ↓op_ia, ↓cells_c, ↓hd_cons, ↓ty4, ↓sl38, List.getD_cons_zero, List.getD_cons_succ, List.set_cons_zero, List.set_cons_succ, List.length_cons, List.length_nil, Bool.true_and, Nat.reduceAdd, Nat.reduceSub, Nat.reduceMul, Nat.zero_add, Int.toNat_natCast, evK_go, reduceIte, decide_true, Nat.reduceEqDiff, Nat.reduceLT, true_and, Int.zero_add, Int.natCast_nonneg]
      refine cdK_split (fun hb => ?_) (fun hb => ?_)
      · simp (implicitDefEqProofs := false) (dsimp := false) only [↓aw_skip, ↓aw_reg, ↓Qseq_n, ↓Qblk_n, ↓ops_nil, ↓ops_cons, ↓eval_tmp, ↓eval_int, ↓put_some, ↓binE_i, ↓bi_add, ↓in_i64, ↓op_move, ↓op_assign, ↓op_bin, List.getD_cons_zero, List.getD_cons_succ, List.set_cons_zero, List.set_cons_succ, Nat.reduceAdd, Nat.reduceSub, Nat.reduceMul, evK_go, reduceIte, Nat.reduceEqDiff, Nat.reduceLT]
        refine ⟨by omega, k + 1, by omega, by omega, ?_⟩
        refine Wkn.of [] [] ?_
        simp (implicitDefEqProofs := false) (dsimp := false) only [miss_succ h, hb, List.set_cons_zero, List.set_cons_succ, Bool.and_self, Nat.reduceAdd, Nat.reduceSub, Nat.reduceMul, Nat.add_zero, List.replicate, evK_go, reduceIte, Bool.not_true, Nat.reduceEqDiff, Nat.reduceLT, and_self, List.foldl_cons, List.foldl_nil, Int.cast_ofNat_Int, Int.natCast_add, slots, wkL_nil, wkL_cons, wkB_nil, wkR_nil, wkV_j, wkV_d, frz_d, reduceCtorEq]
      · simp (implicitDefEqProofs := false) (dsimp := false) only [↓aw_reg, ↓Qseq_n, ↓Qblk_n, ↓ops_nil, ↓ops_cons, ↓eval_tmp, ↓eval_int, ↓put_some, ↓binE_i, ↓bi_add, ↓in_i64, ↓op_move, ↓op_assign, ↓op_bin, List.getD_cons_zero, List.getD_cons_succ, List.set_cons_zero, List.set_cons_succ, Nat.reduceAdd, Nat.reduceSub, Nat.reduceMul, evK_go, reduceIte, Nat.reduceEqDiff, Nat.reduceLT]
        refine ⟨by omega, by omega, k + 1, by omega, by omega, ?_⟩
        refine Wkn.of [] [] ?_
        simp (implicitDefEqProofs := false) (dsimp := false) only [miss_succ h, hb, Bool.false_eq_true, List.set_cons_zero, List.set_cons_succ, Bool.and_self, Nat.reduceAdd, Nat.reduceSub, Nat.reduceMul, List.replicate, evK_go, reduceIte, Bool.not_false, Nat.reduceEqDiff, Nat.reduceLT, and_self, List.foldl_cons, List.foldl_nil, Int.cast_ofNat_Int, Int.natCast_add, slots, wkL_nil, wkL_cons, wkB_nil, wkR_nil, wkV_j, wkV_d, frz_d, reduceCtorEq]
    · obtain rfl : k = l.length := by omega
      rw [List.take_length]
      simp (implicitDefEqProofs := false) (dsimp := false) only [↓aw_seq, ↓aw_exit, ↓aw_ret, ↓aw_reg, ↓Qseq_n, ↓Qseq_x, ↓Qblk_x, ↓Qret_r, ↓ops_nil, ↓ops_cons, ↓eval_tmp, ↓put_some, ↓op_move, ↓op_assign, ↓td_d, ↓ret_1, List.getD_cons_zero, List.getD_cons_succ, List.set_cons_zero, List.set_cons_succ, Nat.reduceAdd, Nat.reduceSub, Nat.reduceMul, evK_go, reduceIte, decide_false, Nat.reduceEqDiff, Nat.reduceLT, Nat.lt_irrefl]
theorem misses_call (l : List Bool) (pure : Bool) (σ : St) (dst : Option Tmp) (K : St → Prop) : CallH Try.prog 34 [.l (l.map Bo)] pure σ dst (.mk : Hid K) = OrH ((l.length < 2 ^ 62) ∧ (pure || D.flat (I .i64 (missN l : Nat))) = true ∧ evK (σ.put dst (.d (I .i64 (missN l : Nat)))) (.mk : Hid K)) (.mk : Hid (CallH Try.prog 34 [.l (l.map Bo)] pure σ dst (.mk : Hid K))) := CallH.eq (misses_spec l) pure σ dst K
theorem misses_callQ (l : List Bool) (pure : Bool) (C : V → Prop) : CallQ Try.prog 34 [.l (l.map Bo)] pure (.mk : Hid C) = OrH ((l.length < 2 ^ 62) ∧ (pure || D.flat (I .i64 (missN l : Nat))) = true ∧ evK (V.d (I .i64 (missN l : Nat))) (.mk : Hid C)) (.mk : Hid (CallQ Try.prog 34 [.l (l.map Bo)] pure (.mk : Hid C))) := CallQ.eq (misses_spec l) pure C
theorem lines_spec (n : Int) (l : List (Int × Int)) (hpre : l.length < 2 ^ 62) : FnD Try.prog 38 [I .i64 n, .l (l.map lnD)] (I .i64 (chk n l)) := by
  refine FnD.go Try.func38 rfl rfl Try.results38 Try.ntmps38 ?_
  simp (implicitDefEqProofs := false) (dsimp := false) only [↓aw_seq, ↓aw_reg, ↓Qseq_n, ↓ops_nil, ↓ops_cons, ↓eval_tmp, ↓eval_int, ↓eval_func, ↓put_some, ↓op_move, ↓op_assign, ↓op_call, isD_d, ↓fnK_f, ↓call_H, ↓callK_H, ↓allT_nil, ↓allT_cons, ↓td_d, List.getD_cons_zero, List.getD_cons_succ, List.set_cons_zero, List.set_cons_succ, List.cons_append, List.nil_append, List.append_nil, List.map_cons, List.map_nil, List.length_cons, List.length_nil, List.all_cons, List.all_nil, Bool.and_self, Nat.reduceAdd, Nat.reduceSub, Nat.reduceMul, Nat.zero_add, List.replicate, evK_go, reduceIte, Nat.reduceEqDiff, Nat.reduceLT, and_self, Int.zero_add]
  simp (implicitDefEqProofs := false) (dsimp := false) only [in1_call, ↓cdK_not, ↓aw_cond, ↓Qseq_n, ↓ops_nil, ↓ops_cons, ↓eval_tmp, ↓put_some, ↓bK_b, ↓op_not, List.getD_cons_zero, List.getD_cons_succ, List.set_cons_zero, List.set_cons_succ, Bool.true_and, Bool.true_or, Nat.reduceAdd, Nat.reduceSub, Nat.reduceMul, evK_go, reduceIte, Nat.reduceEqDiff, Nat.reduceLT, true_and]
  refine OrH.l (OrH.l (cdK_split (fun hn => ?_) (fun hn => ?_)))
  rotate_left
  · simp (implicitDefEqProofs := false) (dsimp := false) only [chk, hn, ↓aw_seq, ↓aw_ret, ↓aw_reg, ↓Qseq_n, ↓Qseq_r, ↓Qret_r, ↓ops_nil, ↓ops_cons, ↓eval_tmp, ↓eval_int, ↓put_some, ↓op_assign, ↓td_d, ↓ret_1, List.getD_cons_zero, List.getD_cons_succ, List.set_cons_zero, List.set_cons_succ, Nat.reduceAdd, Nat.reduceSub, Nat.reduceMul, evK_go, reduceIte, Bool.not_false, Nat.reduceEqDiff, Nat.reduceLT]
  simp (implicitDefEqProofs := false) (dsimp := false) only [↓aw_cond, ↓aw_seq, ↓aw_skip, ↓aw_reg, ↓Qseq_n, ↓ops_nil, ↓ops_cons, ↓eval_tmp, ↓eval_int, ↓put_some, ↓bK_b, ↓lenK_l, ↓binE_i, ↓bi_gtr, ↓op_move, ↓op_bin, ↓op_len, ↓sl22, List.getD_cons_zero, List.getD_cons_succ, List.set_cons_zero, List.set_cons_succ, List.length_map, Nat.reduceAdd, Nat.reduceSub, Nat.reduceMul, evK_go, reduceIte, Nat.reduceEqDiff, Nat.reduceLT]
  refine cdK_dec (fun h24 => ?_) (fun h24 => ?_)
  · have h24' : 24 < l.length := by omega
    simp (implicitDefEqProofs := false) (dsimp := false) only [chk, hn, h24', Bool.true_eq_false, ↓aw_seq, ↓aw_ret, ↓aw_reg, ↓Qseq_n, ↓Qseq_r, ↓Qret_r, ↓ops_nil, ↓ops_cons, ↓eval_tmp, ↓eval_int, ↓put_some, ↓op_assign, ↓td_d, ↓ret_1, List.getD_cons_zero, List.getD_cons_succ, List.set_cons_zero, List.set_cons_succ, Nat.reduceAdd, Nat.reduceSub, Nat.reduceMul, evK_go, reduceIte, Bool.not_true, Nat.reduceEqDiff, Nat.reduceLT]
  have h24' : ¬ 24 < l.length := by omega
  have hc : chk n l = firstErr (lineErr n) l := by simp [chk, hn, h24']
  rw [hc]
  simp (implicitDefEqProofs := false) (dsimp := false) only [↓aw_seq, ↓aw_block, ↓aw_skip, ↓aw_loop, ↓aw_reg, ↓Qseq_n, ↓ops_nil, ↓ops_cons, ↓eval_int, ↓put_some, ↓op_assign, List.set_cons_zero, List.set_cons_succ, Nat.reduceAdd, Nat.reduceSub, Nat.reduceMul, evK_go, reduceIte, Nat.reduceEqDiff, Nat.reduceLT]
  have hn' : 1 ≤ n ∧ n ≤ 8 := by simpa [inB] using hn
  refine loopW (fun k : Nat => { tm := slots 49 [(0, .d (I .i64 n)), (1, .d (.l (l.map lnD))), (5, .d (I .i64 k))], bx := [], rw := [] })
    (fun k => k ≤ l.length ∧ firstErr (lineErr n) (l.take k) = 0) (fun k => l.length - k) 0 ⟨by simp, by simp [firstErr]⟩ ?_ ?_
  · refine Wkn.of [] [] ?_
    simp (implicitDefEqProofs := false) (dsimp := false) only [List.set_cons_zero, List.set_cons_succ, Bool.and_self, Nat.reduceAdd, Nat.reduceSub, Nat.reduceMul, List.replicate, evK_go, reduceIte, Nat.reduceEqDiff, Nat.reduceLT, and_self, List.foldl_cons, List.foldl_nil, Int.cast_ofNat_Int, slots, wkL_nil, wkL_cons, wkB_nil, wkR_nil, wkV_j, wkV_d, frz_d, reduceCtorEq]
  · rintro k ⟨h1, h2⟩
    simp (implicitDefEqProofs := false) (dsimp := false) only [slots, ↓aw_cond, ↓aw_seq, ↓aw_reg, ↓Qseq_n, ↓ops_nil, ↓ops_cons, ↓eval_tmp, ↓put_some, ↓bK_b, ↓lenK_l, ↓binE_i, ↓bi_lss, ↓op_move, ↓op_bin, ↓op_len, ↓sl22, List.getD_cons_zero, List.getD_cons_succ, List.set_cons_zero, List.set_cons_succ, List.length_map, Nat.reduceAdd, Nat.reduceSub, Nat.reduceMul, List.replicate, evK_go, reduceIte, Nat.reduceEqDiff, Nat.reduceLT, List.foldl_cons, List.foldl_nil, Int.ofNat_lt]
    refine cdK_dec (fun h => ?_) (fun h => ?_)
    · obtain ⟨g1, g2⟩ := firstErr_take h h2
      simp (implicitDefEqProofs := false) (dsimp := false) only [h, lnD, in1_call, ↓cdK_not, ↓gdK_f, ↓gval_mk, ↓gvL_zero, ↓gvL_succ, ↓atK_H, ↓atH_map, ↓aw_seq, ↓aw_block, ↓aw_skip, ↓aw_reg, ↓Qseq_n, ↓ops_cons, ↓ops_guard, ↓eval_tmp, ↓eval_int, ↓eval_func, ↓put_some, ↓bK_b, ↓iK_i, ↓binE_i, ↓bi_sub, ↓in_i64, ↓ldK_q, ↓faK_q, ↓iaK_l, ↓op_move, ↓op_load, ↓op_bin, ↓op_not, ↓op_fa, ↓op_ia, ↓op_call, isD_d, ↓fnK_f, ↓call_H, ↓callK_H, ↓allT_nil, ↓allT_cons, ↓td_d, ↓st_tm, ↓cells_s, ↓hd_cons, ↓ty3, ↓sl22, ↓ty35, ↓fd35_0, List.getD_cons_zero, List.getD_cons_succ, List.set_cons_zero, List.set_cons_succ, List.append_nil, List.length_cons, List.length_nil, List.all_cons, List.all_nil, Bool.true_and, Bool.and_self, Bool.true_or, Nat.reduceAdd, Nat.reduceSub, Nat.reduceMul, Nat.zero_add, Int.toNat_natCast, evK_go, reduceIte, decide_true, Nat.reduceEqDiff, Nat.reduceLT, and_self, true_and, Int.zero_add, List.drop_zero, Int.natCast_nonneg]
      refine ⟨by omega, OrH.l (OrH.l (cdK_split (fun ha => ?_) (fun ha => ?_)))⟩
      rotate_left
      · have e : lineErr n (l.getD k default) = 1 := by simp (implicitDefEqProofs := false) (dsimp := false) only [lineErr, ha, Bool.false_and, reduceIte]
        rw [g2 (by rw [e]; decide), e]
        simp (implicitDefEqProofs := false) (dsimp := false) only [ha, ↓cdK_true, ↓gdK_f, ↓gval_mk, ↓gvL_zero, ↓gvL_succ, ↓aw_cond, ↓aw_seq, ↓aw_ret, ↓aw_reg, ↓Qseq_n, ↓Qseq_r, ↓Qblk_r, ↓Qret_r, ↓ops_nil, ↓ops_cons, ↓ops_guard, ↓eval_tmp, ↓eval_int, ↓eval_bool, ↓put_some, ↓bK_b, ↓op_assign, ↓op_pick, ↓td_d, ↓ret_1, ↓st_tm, List.getD_cons_zero, List.getD_cons_succ, List.set_cons_zero, List.set_cons_succ, Nat.reduceAdd, Nat.reduceSub, Nat.reduceMul, evK_go, reduceIte, Bool.not_false, Nat.reduceEqDiff, Nat.reduceLT]
      simp (implicitDefEqProofs := false) (dsimp := false) only [ha, h, lnD, in1_call, ↓cdK_false, ↓cdK_not, ↓gdK_f, ↓gval_mk, ↓gvL_zero, ↓gvL_succ, ↓atK_H, ↓atH_map, ↓aw_cond, ↓Qseq_n, ↓ops_nil, ↓ops_cons, ↓ops_guard, ↓eval_tmp, ↓eval_int, ↓eval_func, ↓put_some, ↓bK_b, ↓iK_i, ↓binE_i, ↓bi_sub, ↓in_i64, ↓ldK_q, ↓faK_q, ↓iaK_l, ↓op_move, ↓op_pick, ↓op_load, ↓op_bin, ↓op_not, ↓op_fa, ↓op_ia, ↓op_call, isD_d, ↓fnK_f, ↓call_H, ↓callK_H, ↓allT_nil, ↓allT_cons, ↓td_d, ↓st_tm, ↓cells_s, ↓hd_cons, ↓ty3, ↓sl22, ↓ty35, ↓fd35_1, List.getD_cons_zero, List.getD_cons_succ, List.set_cons_zero, List.set_cons_succ, List.append_nil, List.length_cons, List.length_nil, List.all_cons, List.all_nil, Bool.true_and, Bool.and_self, Bool.true_or, Nat.reduceAdd, Nat.reduceSub, Nat.reduceMul, Nat.zero_add, Int.toNat_natCast, evK_go, reduceIte, Bool.not_true, Nat.reduceEqDiff, Nat.reduceLT, and_self, true_and, Int.zero_add, List.drop_zero, List.drop_succ_cons, Int.natCast_nonneg]
      refine ⟨by omega, OrH.l (OrH.l (cdK_split (fun hb => ?_) (fun hb => ?_)))⟩
      · simp (implicitDefEqProofs := false) (dsimp := false) only [hb, h, lnD, ↓atK_H, ↓atH_map, ↓aw_cond, ↓aw_seq, ↓aw_skip, ↓aw_draw, ↓Qseq_n, ↓eval_tmp, ↓put_some, ↓bK_b, ↓iK_i, ↓ev_move, ↓ev_load, ↓ev_bin, ↓ev_fa, ↓ev_ia, ↓binE_i, ↓bi_eql, ↓ldK_q, ↓faK_q, ↓iaK_l, ↓draw_H, ↓h_nil, ↓h_cons, ↓ldH_n, ↓q_move, ↓q_load, ↓q_bin, ↓q_fa, ↓q_ia, ↓il_move, ↓il_load, ↓il_bin, ↓il_fa, ↓il_ia, ↓cells_s, ↓hd_cons, ↓ty3, ↓sl22, ↓ty35, ↓fd35_0, ↓fd35_1, List.getD_cons_zero, List.getD_cons_succ, List.set_cons_zero, List.set_cons_succ, List.length_cons, List.length_nil, Bool.true_and, Nat.reduceAdd, Nat.reduceSub, Nat.reduceMul, Nat.zero_add, Int.toNat_natCast, evK_go, reduceIte, Bool.not_true, Nat.reduceEqDiff, Nat.reduceLT, true_and, Int.zero_add, List.drop_zero, List.drop_succ_cons, Int.natCast_nonneg]
        refine OrH.l ⟨DrawH.of follows_mixed (by kernel_rfl), cdK_dec (fun he => ?_) (fun he => ?_)⟩
        · have e : lineErr n (l.getD k default) = 3 := by unfold lineErr; rw [ha, hb, if_neg (by decide), if_pos he]
          rw [g2 (by rw [e]; decide), e]
          simp (implicitDefEqProofs := false) (dsimp := false) only [↓aw_seq, ↓aw_ret, ↓aw_reg, ↓Qseq_n, ↓Qseq_r, ↓Qblk_r, ↓Qret_r, ↓ops_nil, ↓ops_cons, ↓eval_tmp, ↓eval_int, ↓put_some, ↓op_assign, ↓td_d, ↓ret_1, List.getD_cons_zero, List.getD_cons_succ, List.set_cons_zero, List.set_cons_succ, Nat.reduceAdd, Nat.reduceSub, Nat.reduceMul, evK_go, reduceIte, Nat.reduceEqDiff, Nat.reduceLT]
        · have e : lineErr n (l.getD k default) = 0 := by simp (implicitDefEqProofs := false) (dsimp := false) only [lineErr, ha, hb, he, Bool.and_self, reduceIte, Bool.true_eq_false]
          simp (implicitDefEqProofs := false) (dsimp := false) only [↓aw_skip, ↓aw_reg, ↓Qseq_n, ↓Qblk_n, ↓ops_nil, ↓ops_cons, ↓eval_tmp, ↓eval_int, ↓put_some, ↓binE_i, ↓bi_add, ↓in_i64, ↓op_move, ↓op_assign, ↓op_bin, List.getD_cons_zero, List.getD_cons_succ, List.set_cons_zero, List.set_cons_succ, Nat.reduceAdd, Nat.reduceSub, Nat.reduceMul, evK_go, reduceIte, Nat.reduceEqDiff, Nat.reduceLT]
          refine ⟨by omega, k + 1, ⟨by omega, g1 e⟩, by omega, ?_⟩
          refine Wkn.of [] [] ?_
          simp (implicitDefEqProofs := false) (dsimp := false) only [List.set_cons_zero, List.set_cons_succ, Bool.and_self, Nat.reduceAdd, Nat.reduceSub, Nat.reduceMul, List.replicate, evK_go, reduceIte, Nat.reduceEqDiff, Nat.reduceLT, and_self, List.foldl_cons, List.foldl_nil, Int.cast_ofNat_Int, Int.natCast_add, slots, wkL_nil, wkL_cons, wkB_nil, wkR_nil, wkV_j, wkV_d, frz_d, reduceCtorEq]
      · have e : lineErr n (l.getD k default) = 1 := by simp (implicitDefEqProofs := false) (dsimp := false) only [lineErr, hb, Bool.and_false, reduceIte]
        rw [g2 (by rw [e]; decide), e]
        simp (implicitDefEqProofs := false) (dsimp := false) only [hb, ↓aw_seq, ↓aw_ret, ↓aw_reg, ↓Qseq_n, ↓Qseq_r, ↓Qblk_r, ↓Qret_r, ↓ops_nil, ↓ops_cons, ↓eval_tmp, ↓eval_int, ↓put_some, ↓op_assign, ↓td_d, ↓ret_1, List.getD_cons_zero, List.getD_cons_succ, List.set_cons_zero, List.set_cons_succ, Nat.reduceAdd, Nat.reduceSub, Nat.reduceMul, evK_go, reduceIte, Bool.not_false, Nat.reduceEqDiff, Nat.reduceLT]
    · obtain rfl : k = l.length := by omega
      rw [List.take_length] at h2
      simp (implicitDefEqProofs := false) (dsimp := false) only [h2, ↓aw_seq, ↓aw_exit, ↓aw_ret, ↓aw_reg, ↓Qseq_n, ↓Qseq_x, ↓Qblk_x, ↓Qret_r, ↓ops_nil, ↓ops_cons, ↓eval_tmp, ↓eval_int, ↓put_some, ↓op_assign, ↓td_d, ↓ret_1, List.getD_cons_zero, List.getD_cons_succ, List.set_cons_zero, List.set_cons_succ, Nat.reduceAdd, Nat.reduceSub, Nat.reduceMul, evK_go, reduceIte, decide_false, Nat.reduceEqDiff, Nat.reduceLT, Nat.lt_irrefl]
theorem lines_call (n : Int) (l : List (Int × Int)) (pure : Bool) (σ : St) (dst : Option Tmp) (K : St → Prop) : CallH Try.prog 38 [I .i64 n, .l (l.map lnD)] pure σ dst (.mk : Hid K) = OrH ((l.length < 2 ^ 62) ∧ (pure || D.flat (I .i64 (chk n l))) = true ∧ evK (σ.put dst (.d (I .i64 (chk n l)))) (.mk : Hid K)) (.mk : Hid (CallH Try.prog 38 [I .i64 n, .l (l.map lnD)] pure σ dst (.mk : Hid K))) := CallH.eq (lines_spec n l) pure σ dst K
theorem lines_callQ (n : Int) (l : List (Int × Int)) (pure : Bool) (C : V → Prop) : CallQ Try.prog 38 [I .i64 n, .l (l.map lnD)] pure (.mk : Hid C) = OrH ((l.length < 2 ^ 62) ∧ (pure || D.flat (I .i64 (chk n l))) = true ∧ evK (V.d (I .i64 (chk n l))) (.mk : Hid C)) (.mk : Hid (CallQ Try.prog 38 [I .i64 n, .l (l.map lnD)] pure (.mk : Hid C))) := CallQ.eq (lines_spec n l) pure C
end Go.Proofs

namespace Go.Proofs
open Go.Aw
set_option linter.unusedSimpArgs false
set_option maxRecDepth 10000
def cfL : List (Int × Int) := [(0, 1), (1, 2), (0, 2)]
theorem cf1_spec  : FnD Try.prog 37 [I .i64 3, .l [.s [I .i64 0, I .i64 1], .s [I .i64 1, I .i64 2], .s [I .i64 0, I .i64 2]]] (.t [.l [.l [I .i64 1, I .i64 2], .l [I .i64 2], .l []], erD 0]) := by
  have h := call_spec 3 cfL (by decide)
  rw [show closeAll 3 cfL = [[1, 2], [2], []] by decide +kernel, show chk 3 cfL = 0 by decide +kernel] at h
  exact h
theorem cf1_call  (pure : Bool) (σ : St) (dst : Option Tmp) (K : St → Prop) : CallH Try.prog 37 [I .i64 3, .l [.s [I .i64 0, I .i64 1], .s [I .i64 1, I .i64 2], .s [I .i64 0, I .i64 2]]] pure σ dst (.mk : Hid K) = OrH ((pure || D.flat (.t [.l [.l [I .i64 1, I .i64 2], .l [I .i64 2], .l []], erD 0])) = true ∧ evK (σ.put dst (.d (.t [.l [.l [I .i64 1, I .i64 2], .l [I .i64 2], .l []], erD 0]))) (.mk : Hid K)) (.mk : Hid (CallH Try.prog 37 [I .i64 3, .l [.s [I .i64 0, I .i64 1], .s [I .i64 1, I .i64 2], .s [I .i64 0, I .i64 2]]] pure σ dst (.mk : Hid K))) := CallH.eq0 (cf1_spec ) pure σ dst K
theorem cf1_callQ  (pure : Bool) (C : V → Prop) : CallQ Try.prog 37 [I .i64 3, .l [.s [I .i64 0, I .i64 1], .s [I .i64 1, I .i64 2], .s [I .i64 0, I .i64 2]]] pure (.mk : Hid C) = OrH ((pure || D.flat (.t [.l [.l [I .i64 1, I .i64 2], .l [I .i64 2], .l []], erD 0])) = true ∧ evK (V.d (.t [.l [.l [I .i64 1, I .i64 2], .l [I .i64 2], .l []], erD 0])) (.mk : Hid C)) (.mk : Hid (CallQ Try.prog 37 [I .i64 3, .l [.s [I .i64 0, I .i64 1], .s [I .i64 1, I .i64 2], .s [I .i64 0, I .i64 2]]] pure (.mk : Hid C))) := CallQ.eq0 (cf1_spec ) pure C
theorem cf2_spec  : FnD Try.prog 40 [I .i64 3, .l [.s [I .i64 0, I .i64 1], .s [I .i64 1, I .i64 2], .s [I .i64 0, I .i64 2]]] (.t [.l [.s [I .i64 0, I .i64 1], .s [I .i64 1, I .i64 2]], erD 0]) := by
  have h := few_spec 3 cfL (by decide)
  rw [show fewR 3 cfL = [(0, 1), (1, 2)] by decide +kernel, show topoE 3 cfL = 0 by decide +kernel] at h
  exact h
theorem cf2_call  (pure : Bool) (σ : St) (dst : Option Tmp) (K : St → Prop) : CallH Try.prog 40 [I .i64 3, .l [.s [I .i64 0, I .i64 1], .s [I .i64 1, I .i64 2], .s [I .i64 0, I .i64 2]]] pure σ dst (.mk : Hid K) = OrH ((pure || D.flat (.t [.l [.s [I .i64 0, I .i64 1], .s [I .i64 1, I .i64 2]], erD 0])) = true ∧ evK (σ.put dst (.d (.t [.l [.s [I .i64 0, I .i64 1], .s [I .i64 1, I .i64 2]], erD 0]))) (.mk : Hid K)) (.mk : Hid (CallH Try.prog 40 [I .i64 3, .l [.s [I .i64 0, I .i64 1], .s [I .i64 1, I .i64 2], .s [I .i64 0, I .i64 2]]] pure σ dst (.mk : Hid K))) := CallH.eq0 (cf2_spec ) pure σ dst K
theorem cf2_callQ  (pure : Bool) (C : V → Prop) : CallQ Try.prog 40 [I .i64 3, .l [.s [I .i64 0, I .i64 1], .s [I .i64 1, I .i64 2], .s [I .i64 0, I .i64 2]]] pure (.mk : Hid C) = OrH ((pure || D.flat (.t [.l [.s [I .i64 0, I .i64 1], .s [I .i64 1, I .i64 2]], erD 0])) = true ∧ evK (V.d (.t [.l [.s [I .i64 0, I .i64 1], .s [I .i64 1, I .i64 2]], erD 0])) (.mk : Hid C)) (.mk : Hid (CallQ Try.prog 40 [I .i64 3, .l [.s [I .i64 0, I .i64 1], .s [I .i64 1, I .i64 2], .s [I .i64 0, I .i64 2]]] pure (.mk : Hid C))) := CallQ.eq0 (cf2_spec ) pure C
theorem cf3_spec  : FnD Try.prog 39 [.l [.l [I .i64 1, I .i64 2], .l [I .i64 2], .l []], .l [.l [I .i64 1, I .i64 2], .l [I .i64 2], .l []]] (Bo true) := by
  have h := erows_spec [[1, 2], [2], []] [[1, 2], [2], []] (by decide)
  exact h
theorem cf3_call  (pure : Bool) (σ : St) (dst : Option Tmp) (K : St → Prop) : CallH Try.prog 39 [.l [.l [I .i64 1, I .i64 2], .l [I .i64 2], .l []], .l [.l [I .i64 1, I .i64 2], .l [I .i64 2], .l []]] pure σ dst (.mk : Hid K) = OrH ((pure || D.flat (Bo true)) = true ∧ evK (σ.put dst (.d (Bo true))) (.mk : Hid K)) (.mk : Hid (CallH Try.prog 39 [.l [.l [I .i64 1, I .i64 2], .l [I .i64 2], .l []], .l [.l [I .i64 1, I .i64 2], .l [I .i64 2], .l []]] pure σ dst (.mk : Hid K))) := CallH.eq0 (cf3_spec ) pure σ dst K
theorem cf3_callQ  (pure : Bool) (C : V → Prop) : CallQ Try.prog 39 [.l [.l [I .i64 1, I .i64 2], .l [I .i64 2], .l []], .l [.l [I .i64 1, I .i64 2], .l [I .i64 2], .l []]] pure (.mk : Hid C) = OrH ((pure || D.flat (Bo true)) = true ∧ evK (V.d (Bo true)) (.mk : Hid C)) (.mk : Hid (CallQ Try.prog 39 [.l [.l [I .i64 1, I .i64 2], .l [I .i64 2], .l []], .l [.l [I .i64 1, I .i64 2], .l [I .i64 2], .l []]] pure (.mk : Hid C))) := CallQ.eq0 (cf3_spec ) pure C
theorem cf4_spec  : FnD Try.prog 61 [.l [.s [I .i64 0, I .i64 1], .s [I .i64 1, I .i64 2]], .l [.s [I .i64 0, I .i64 1], .s [I .i64 1, I .i64 2]]] (Bo true) := by
  have h := elines_spec [(0, 1), (1, 2)] [(0, 1), (1, 2)] (by decide)
  exact h
theorem cf4_call  (pure : Bool) (σ : St) (dst : Option Tmp) (K : St → Prop) : CallH Try.prog 61 [.l [.s [I .i64 0, I .i64 1], .s [I .i64 1, I .i64 2]], .l [.s [I .i64 0, I .i64 1], .s [I .i64 1, I .i64 2]]] pure σ dst (.mk : Hid K) = OrH ((pure || D.flat (Bo true)) = true ∧ evK (σ.put dst (.d (Bo true))) (.mk : Hid K)) (.mk : Hid (CallH Try.prog 61 [.l [.s [I .i64 0, I .i64 1], .s [I .i64 1, I .i64 2]], .l [.s [I .i64 0, I .i64 1], .s [I .i64 1, I .i64 2]]] pure σ dst (.mk : Hid K))) := CallH.eq0 (cf4_spec ) pure σ dst K
theorem cf4_callQ  (pure : Bool) (C : V → Prop) : CallQ Try.prog 61 [.l [.s [I .i64 0, I .i64 1], .s [I .i64 1, I .i64 2]], .l [.s [I .i64 0, I .i64 1], .s [I .i64 1, I .i64 2]]] pure (.mk : Hid C) = OrH ((pure || D.flat (Bo true)) = true ∧ evK (V.d (Bo true)) (.mk : Hid C)) (.mk : Hid (CallQ Try.prog 61 [.l [.s [I .i64 0, I .i64 1], .s [I .i64 1, I .i64 2]], .l [.s [I .i64 0, I .i64 1], .s [I .i64 1, I .i64 2]]] pure (.mk : Hid C))) := CallQ.eq0 (cf4_spec ) pure C
theorem cfact_spec  : FnD Try.prog 36 [] (Bo true) := by
  refine FnD.go Try.func36 rfl rfl Try.results36 Try.ntmps36 ?_
  simp (implicitDefEqProofs := false) (dsimp := false) only [↓aw_seq, ↓aw_reg, ↓Qseq_n, ↓ops_nil, ↓ops_cons, ↓eval_tmp, ↓eval_int, ↓eval_bool, ↓eval_func, ↓put_some, ↓dK_d, ↓op_move, ↓op_assign, ↓op_build, ↓op_call, isD_d, ↓fnK_f, ↓call_H, ↓callK_H, ↓allT_nil, ↓allT_cons, ↓allD_nil, ↓allD_cons, ↓td_d, ↓cells_c, ↓cells_s, ↓one_i, ↓bs_, ↓op_bs, ↓bsL_f, ↓stored_mk, ↓sl_nil, ↓sl_cons, ↓sT_assign, ↓sT_build, ↓sT_bs, ↓vsz_agg, ↓inO_3, ↓fm_nil, ↓fm_cons, ↓sl22, ↓ty35, ↓zb35, ↓bd35, List.getD_cons_zero, List.getD_cons_succ, List.set_cons_zero, List.set_cons_succ, List.cons_append, List.nil_append, List.append_nil, List.map_cons, List.map_nil, List.length_cons, List.length_nil, List.all_cons, List.all_nil, Bool.true_and, Bool.and_self, Bool.or_false, Nat.reduceAdd, Nat.reduceSub, Nat.reduceMul, Nat.zero_add, List.replicate, evK_go, reduceIte, Nat.reduceEqDiff, Nat.reduceLT, and_self, true_and, Int.zero_add]
  simp (implicitDefEqProofs := false) (dsimp := false) only [cf1_call, cf2_call, cf3_call, cf4_call, eval_nilI, ↓er_eql, ↓cdK_true, ↓gdK_t, ↓gval_mk, ↓gvL_zero, ↓gvL_succ, ↓nthK_H, ↓nthH_zero, ↓nthH_succ, ↓aw_seq, ↓aw_ret, ↓aw_reg, ↓Qseq_n, ↓Qret_r, ↓ops_nil, ↓ops_cons, ↓ops_guard, ↓eval_tmp, ↓eval_int, ↓eval_func, ↓put_some, ↓bK_b, ↓dK_d, ↓tK_t, ↓op_move, ↓op_assign, ↓op_pick, ↓op_bin, ↓op_extract, ↓op_build, ↓op_call, ↓orH_T, isD_d, ↓fnK_f, ↓call_H, ↓callK_H, ↓allT_nil, ↓allT_cons, ↓allD_nil, ↓allD_cons, ↓td_d, ↓ret_1, ↓st_tm, ↓cells_c, ↓cells_s, ↓cells_l, ↓one_i, ↓one_l, ↓bs_, ↓op_bs, ↓bsL_f, ↓stored_mk, ↓sl_nil, ↓sl_cons, ↓sT_move, ↓sT_assign, ↓sT_pick, ↓sT_bin, ↓sT_build, ↓sT_bs, ↓sT_call, ↓vsz_int, ↓vsz_slice, ↓vsz_agg, ↓inO_1, ↓inO_2, ↓inO_3, ↓fm_nil, ↓fm_cons, ↓ty3, ↓zb3, ↓sl22, ↓ty28, ↓sl28, ↓zb28, ↓ty35, ↓zb35, ↓bd35, ↓sl44, List.getD_cons_zero, List.getD_cons_succ, List.set_cons_zero, List.set_cons_succ, List.cons_append, List.nil_append, List.append_nil, List.map_cons, List.map_nil, List.length_cons, List.length_nil, List.all_cons, List.all_nil, Bool.and_true, Bool.true_and, Bool.and_self, Bool.true_or, Bool.or_false, Nat.reduceAdd, Nat.reduceSub, Nat.reduceMul, Nat.zero_add, evK_go, reduceIte, decide_true, Nat.reduceEqDiff, Nat.reduceLT, and_self, true_and, and_true, Int.zero_add]
  exact ⟨⟨rfl, by decide⟩, OrH.l (OrH.l (OrH.l (OrH.l ⟨by decide, by decide, ⟨rfl, by decide⟩, by decide, OrH.l (OrH.l ⟨rfl, by decide⟩)⟩)))⟩
theorem cfact_call  (pure : Bool) (σ : St) (dst : Option Tmp) (K : St → Prop) : CallH Try.prog 36 [] pure σ dst (.mk : Hid K) = OrH ((pure || D.flat (Bo true)) = true ∧ evK (σ.put dst (.d (Bo true))) (.mk : Hid K)) (.mk : Hid (CallH Try.prog 36 [] pure σ dst (.mk : Hid K))) := CallH.eq0 (cfact_spec ) pure σ dst K
theorem cfact_callQ  (pure : Bool) (C : V → Prop) : CallQ Try.prog 36 [] pure (.mk : Hid C) = OrH ((pure || D.flat (Bo true)) = true ∧ evK (V.d (Bo true)) (.mk : Hid C)) (.mk : Hid (CallQ Try.prog 36 [] pure (.mk : Hid C))) := CallQ.eq0 (cfact_spec ) pure C
end Go.Proofs

namespace Go.Proofs
open Go.Aw
set_option linter.unusedSimpArgs false
set_option maxRecDepth 10000
/-- What is known of where ways go. -/
structure CW (n : Int) (l : List (Int × Int)) (M : List (List Int)) (m : Nat) : Prop where
  n0 : n = (m : Int)
  hi : m ≤ 8
  llen : l.length ≤ 24
  len : M.length = m
  sz : ∀ i : Nat, (M.getD i default).length ≤ 64
  line : ∀ p ∈ l, ∃ x y : Nat, p = ((x : Int), (y : Int)) ∧ x < m ∧ y < m ∧ x ≠ y ∧ (y : Int) ∈ M.getD x default
  pt : ∀ (a : Nat) (b : Int), b ∈ M.getD a default → ∃ c : Nat, b = (c : Int) ∧ c < m ∧ a < m
  tr : ∀ (a b : Nat) (c : Int), (b : Int) ∈ M.getD a default → c ∈ M.getD b default → c ∈ M.getD a default
theorem closeW {n : Int} {l : List (Int × Int)} (hc : chk n l = 0) : CW n l (closeAll n l) n.toNat := by
  have ok := chk_ok hc
  have e : closeAll n l = (war n.toNat (natL l)).map ptsI := if_pos hc
  have hk : ∀ (i : Nat) (j : Int), j ∈ (closeAll n l).getD i default ↔ ∃ c : Nat, j = (c : Int) ∧ Path1 (natL l) i c := fun i j => by
    rw [e, mapP_get]
    constructor
    · intro h
      obtain ⟨c, hc1, rfl⟩ := List.mem_map.1 h
      exact ⟨c, rfl, (war_bit ok.good _ _).1 ((pts_mem _ _).1 hc1).2⟩
    · rintro ⟨c, rfl, h⟩
      have := (h.lt ok.good).2
      have := ok.hi
      exact (ptsI_mem _ _).2 ⟨by omega, (war_bit ok.good _ _).2 h⟩
  refine ⟨ok.n0, ok.hi, ok.len, by rw [e, List.length_map]; exact war_len ok.good, fun i => by rw [e, mapP_get]; exact ptsI_len _, fun p hp => ?_, fun a b hb => ?_, fun a b c hb hc => ?_⟩
  · have h1 := ok.rng p hp
    have h2 : natP p ∈ natL l := List.mem_map.2 ⟨p, hp, rfl⟩
    have h3 := ok.good _ h2
    refine ⟨p.1.toNat, p.2.toNat, ?_, h3.1, h3.2, ok.ne _ h2, ?_⟩
    · rw [Int.toNat_of_nonneg h1.1, Int.toNat_of_nonneg h1.2]
    · exact (hk _ _).2 ⟨_, rfl, p.2.toNat, h2, .refl⟩
  · obtain ⟨c, rfl, h⟩ := (hk _ _).1 hb
    have := h.lt ok.good
    exact ⟨c, rfl, this.2, this.1⟩
  · obtain ⟨x, hx, h1⟩ := (hk _ _).1 hb
    obtain ⟨y, rfl, h2⟩ := (hk _ _).1 hc
    cases Int.ofNat_inj.1 hx
    exact (hk _ _).2 ⟨y, rfl, h1.trans h2.path⟩
theorem closeW_more {n : Int} {l : List (Int × Int)} (hc : chk n l = 0) {a b : Nat} (hb : (b : Int) ∈ (closeAll n l).getD a default) (hab : a ≠ b) (h24 : l.length < 24) :
    chk n (l ++ [((a : Int), (b : Int))]) = 0 ∧ closeAll n (l ++ [((a : Int), (b : Int))]) = closeAll n l := by
  have ok := chk_ok hc
  have cw := closeW hc
  obtain ⟨c, h1, h2, h3⟩ := cw.pt a b hb
  cases Int.ofNat_inj.1 h1
  have n0 := ok.n0
  have h0 : chk n (l ++ [((a : Int), (b : Int))]) = 0 := by
    rw [chk_iff] at hc ⊢
    refine ⟨hc.1, by simp; omega, fun p hp => ?_⟩
    rcases List.mem_append.1 hp with hp | hp
    · exact hc.2.2 p hp
    · rw [List.mem_singleton.1 hp, lineErr_iff]
      exact ⟨⟨by simp, by simp; omega⟩, ⟨by simp, by simp; omega⟩, by simp; omega⟩
  refine ⟨h0, ?_⟩
  have ok2 := chk_ok h0
  have hb' := hb
  unfold closeAll
  rw [if_pos h0, if_pos hc]
  have e : natL (l ++ [((a : Int), (b : Int))]) = natL l ++ [(a, b)] := by simp [natL, natP]
  have hg2 := ok2.good
  rw [e] at hg2 ⊢
  have hp : Path1 (natL l) a b := by
    have e : closeAll n l = (war n.toNat (natL l)).map ptsI := if_pos hc
    rw [e, mapP_get] at hb
    exact (war_bit ok.good _ _).1 ((ptsI_mem _ _).1 hb).2
  have hw : war n.toNat (natL l ++ [(a, b)]) = war n.toNat (natL l) := by
    refine List.ext_getElem (by rw [war_len hg2, war_len ok.good]) fun i h1 h2 => ?_
    apply bits_eq
    intro j
    have g1 := war_bit hg2 i j
    have g2 := war_bit ok.good i j
    rw [List.getD_eq_getElem?_getD, List.getElem?_eq_getElem h1, Option.getD_some] at g1
    rw [List.getD_eq_getElem?_getD, List.getElem?_eq_getElem h2, Option.getD_some] at g2
    rw [Bool.eq_iff_iff, g1, g2]
    exact path1_more hp
  rw [hw]
theorem lCloseWays_spec (n : Int) (l : List (Int × Int)) (_hn : -9223372036854775808 ≤ n ∧ n ≤ 9223372036854775807) (hpre : l.length < 2 ^ 43) : FnD Try.prog 7 [I .i64 n, .l (l.map lnD)] (Bo true) := by
  have hl62 : l.length < 2 ^ 62 := by omega
  refine FnD.go Try.func7 rfl rfl Try.results7 Try.ntmps7 ?_
  simp (implicitDefEqProofs := false) (dsimp := false) only [↓aw_seq, ↓aw_reg, ↓Qseq_n, ↓ops_nil, ↓ops_cons, ↓eval_bool, ↓eval_func, ↓put_some, ↓op_assign, ↓op_call, isD_d, ↓fnK_f, ↓call_H, ↓callK_H, ↓allT_nil, ↓td_d, List.set_cons_zero, List.set_cons_succ, List.cons_append, List.nil_append, List.append_nil, List.map_cons, List.map_nil, List.length_cons, List.length_nil, List.all_nil, Bool.and_self, Nat.reduceAdd, Nat.reduceSub, Nat.reduceMul, Nat.zero_add, List.replicate, evK_go, reduceIte, Nat.reduceEqDiff, Nat.reduceLT, and_self, Int.zero_add]
  simp (implicitDefEqProofs := false) (dsimp := false) only [cfact_call, call_call, hl62, eval_nilI, ↓er_neq, ↓cdK_false, ↓cdK_not, ↓nthK_H, ↓nthH_zero, ↓nthH_succ, ↓aw_cond, ↓aw_seq, ↓aw_skip, ↓aw_reg, ↓Qseq_n, ↓ops_nil, ↓ops_cons, ↓eval_tmp, ↓eval_func, ↓put_some, ↓bK_b, ↓tK_t, ↓op_move, ↓op_assign, ↓op_bin, ↓op_not, ↓op_extract, ↓op_call, isD_d, ↓fnK_f, ↓call_H, ↓callK_H, ↓allT_nil, ↓allT_cons, ↓td_d, List.getD_cons_zero, List.getD_cons_succ, List.set_cons_zero, List.set_cons_succ, List.append_nil, List.all_cons, List.all_nil, Bool.true_and, Bool.and_self, Bool.true_or, Nat.reduceAdd, Nat.reduceSub, Nat.reduceMul, evK_go, reduceIte, Bool.not_true, Nat.reduceEqDiff, Nat.reduceLT, and_self, true_and]
  refine OrH.l (OrH.l (OrH.l (OrH.l (cdK_dec (fun hc => ?_) (fun hc => ?_)))))
  rotate_left
  · have e1 : closeAll n l = [] := if_neg hc
    simp (implicitDefEqProofs := false) (dsimp := false) only [e1, ↓aw_seq, ↓aw_ret, ↓aw_reg, ↓Qseq_n, ↓Qseq_r, ↓Qret_r, ↓ops_nil, ↓ops_cons, ↓eval_tmp, ↓eval_int, ↓put_some, ↓lenK_l, ↓binE_i, ↓bi_eql, ↓op_move, ↓op_assign, ↓op_bin, ↓op_len, ↓td_d, ↓ret_1, ↓sl44, List.getD_cons_zero, List.getD_cons_succ, List.set_cons_zero, List.set_cons_succ, List.map_nil, List.length_nil, Nat.reduceAdd, Nat.reduceSub, Nat.reduceMul, evK_go, reduceIte, decide_true, Nat.reduceEqDiff, Nat.reduceLT, Int.cast_ofNat_Int]
  have cw := closeW hc
  have more : ∀ a b : Nat, (b : Int) ∈ (closeAll n l).getD a default → a ≠ b → l.length < 24 → chk n (l ++ [((a : Int), (b : Int))]) = 0 ∧ closeAll n (l ++ [((a : Int), (b : Int))]) = closeAll n l := fun a b h1 h2 h3 => closeW_more hc h1 h2 h3
  generalize hM : closeAll n l = M at cw more ⊢
  generalize n.toNat = m at cw
  have e0 := cw.n0
  have h8 := cw.hi
  have hML : ((M.length : Nat) : Int) = n := by rw [cw.len, e0]
  simp (implicitDefEqProofs := false) (dsimp := false) only [lines_call, hc, hl62, hML, ↓cdK_false, ↓gdK_f, ↓gval_mk, ↓gvL_zero, ↓gvL_succ, ↓aw_cond, ↓aw_seq, ↓aw_block, ↓aw_skip, ↓aw_loop, ↓aw_reg, ↓Qseq_n, ↓ops_nil, ↓ops_cons, ↓ops_guard, ↓eval_tmp, ↓eval_int, ↓eval_func, ↓put_some, ↓bK_b, ↓lenK_l, ↓binE_i, ↓bi_neq, ↓op_move, ↓op_assign, ↓op_pick, ↓op_bin, ↓op_len, ↓op_call, isD_d, ↓fnK_f, ↓call_H, ↓callK_H, ↓allT_nil, ↓allT_cons, ↓td_d, ↓st_tm, ↓sl44, List.getD_cons_zero, List.getD_cons_succ, List.set_cons_zero, List.set_cons_succ, List.append_nil, List.length_map, List.all_cons, List.all_nil, Bool.true_and, Bool.and_self, Bool.true_or, Nat.reduceAdd, Nat.reduceSub, Nat.reduceMul, evK_go, reduceIte, decide_true, Bool.not_true, Nat.reduceEqDiff, Nat.reduceLT, and_self, true_and]
  refine OrH.l (OrH.l ?_)
  refine loopW (fun k : Nat => { tm := slots 139 [(0, .d (I .i64 n)), (1, .d (.l (l.map lnD))), (6, .d (.l (M.map liD))), (8, .d (I .i64 k))], bx := [], rw := [] })
    (fun k => k ≤ l.length) (fun k => l.length - k) 0 (by simp) ?_ ?_
  · refine Wkn.of [] [] ?_
    simp (implicitDefEqProofs := false) (dsimp := false) only [List.set_cons_zero, List.set_cons_succ, Bool.and_self, Nat.reduceAdd, Nat.reduceSub, Nat.reduceMul, List.replicate, evK_go, reduceIte, Nat.reduceEqDiff, Nat.reduceLT, and_self, List.foldl_cons, List.foldl_nil, Int.cast_ofNat_Int, slots, wkL_nil, wkL_cons, wkB_nil, wkR_nil, wkV_j, wkV_d, frz_d, reduceCtorEq]
  · intro k hk
    simp (implicitDefEqProofs := false) (dsimp := false) only [slots, ↓aw_cond, ↓aw_seq, ↓aw_reg, ↓Qseq_n, ↓ops_nil, ↓ops_cons, ↓eval_tmp, ↓put_some, ↓bK_b, ↓lenK_l, ↓binE_i, ↓bi_lss, ↓op_move, ↓op_bin, ↓op_len, ↓sl22, List.getD_cons_zero, List.getD_cons_succ, List.set_cons_zero, List.set_cons_succ, List.length_map, Nat.reduceAdd, Nat.reduceSub, Nat.reduceMul, List.replicate, evK_go, reduceIte, Nat.reduceEqDiff, Nat.reduceLT, List.foldl_cons, List.foldl_nil, Int.ofNat_lt]
    refine cdK_dec (fun h => ?_) (fun h => ?_)
    · obtain ⟨x, y, hxy, hx, hy, hne, hmem⟩ := cw.line _ (getD_mem h)
      have hx' : x < M.length := by rw [cw.len]; exact hx
      have hs := cw.sz x
      have hs' : (M.getD x default).length < 2 ^ 62 := by omega
      simp (implicitDefEqProofs := false) (dsimp := false) only [h, lnD, hxy, hx', liD, hasR_callQ, hs', hmem, ↓cdK_false, ↓atK_H, ↓atH_map, ↓aw_cond, ↓aw_seq, ↓aw_block, ↓aw_skip, ↓aw_reg, ↓aw_draw, ↓Qseq_n, ↓Qblk_n, ↓ops_nil, ↓ops_cons, ↓eval_tmp, ↓eval_int, ↓eval_func, ↓put_some, ↓bK_b, ↓iK_i, ↓ev_move, ↓ev_load, ↓ev_not, ↓ev_fa, ↓ev_ia, ↓binE_i, ↓bi_add, ↓in_i64, ↓ldK_q, ↓faK_q, ↓iaK_l, ↓op_move, ↓op_assign, ↓op_bin, isD_d, ↓fnK_f, ↓callKQ_H, ↓allT_nil, ↓allT_cons, ↓td_d, ↓draw_H, ↓h_nil, ↓h_cons, ↓ldH_n, ↓q_call, ↓q_move, ↓q_load, ↓q_un, ↓q_fa, ↓q_ia, ↓il_move, ↓il_load, ↓il_un, ↓il_fa, ↓il_ia, ↓il_call, ↓cells_s, ↓cells_l, ↓hd_cons, ↓ty3, ↓sl22, ↓ty28, ↓ty35, ↓fd35_0, ↓fd35_1, ↓sl44, List.getD_cons_zero, List.getD_cons_succ, List.set_cons_zero, List.set_cons_succ, List.append_nil, List.length_cons, List.length_nil, List.all_cons, List.all_nil, Bool.true_and, Bool.and_self, Bool.true_or, Nat.reduceAdd, Nat.reduceSub, Nat.reduceMul, Nat.zero_add, Int.toNat_natCast, evK_go, reduceIte, decide_true, Bool.not_true, Nat.reduceEqDiff, Nat.reduceLT, and_self, true_and, Int.zero_add, List.drop_zero, List.drop_succ_cons, Int.natCast_nonneg]
      refine OrH.l ⟨DrawH.of follows_mixed (by kernel_rfl), ?_⟩
      (repeat refine OrH.l ?_)
      refine ⟨by omega, k + 1, by omega, by omega, ?_⟩
      refine Wkn.of [] [] ?_; simp (implicitDefEqProofs := false) (dsimp := false) only [List.set_cons_zero, List.set_cons_succ, Bool.and_self, Nat.reduceAdd, Nat.reduceSub, Nat.reduceMul, List.replicate, evK_go, reduceIte, Nat.reduceEqDiff, Nat.reduceLT, and_self, List.foldl_cons, List.foldl_nil, Int.cast_ofNat_Int, Int.natCast_add, slots, wkL_nil, wkL_cons, wkB_nil, wkR_nil, wkV_j, wkV_d, frz_d, reduceCtorEq]
    · simp (implicitDefEqProofs := false) (dsimp := false) only [↓aw_seq, ↓aw_block, ↓aw_exit, ↓aw_loop, ↓aw_reg, ↓Qseq_n, ↓Qseq_x, ↓Qblk_x, ↓ops_nil, ↓ops_cons, ↓eval_int, ↓put_some, ↓op_assign, List.set_cons_zero, List.set_cons_succ, Nat.reduceAdd, Nat.reduceSub, Nat.reduceMul, evK_go, reduceIte, Nat.reduceEqDiff, Nat.reduceLT]
      refine loopW (fun a : Nat => { tm := slots 139 [(0, .d (I .i64 n)), (1, .d (.l (l.map lnD))), (6, .d (.l (M.map liD))), (9, .d (I .i64 a))], bx := [], rw := [] })
        (fun a => a ≤ m) (fun a => m - a) 0 (by simp) ?_ ?_
      · refine Wkn.of [] [] ?_; simp (implicitDefEqProofs := false) (dsimp := false) only [List.set_cons_zero, List.set_cons_succ, Bool.and_self, Nat.reduceAdd, Nat.reduceSub, Nat.reduceMul, List.replicate, evK_go, reduceIte, Nat.reduceEqDiff, Nat.reduceLT, and_self, List.foldl_cons, List.foldl_nil, Int.cast_ofNat_Int, slots, wkL_nil, wkL_cons, wkB_nil, wkR_nil, wkV_j, wkV_d, frz_d, reduceCtorEq]
      · intro a ha
        simp (implicitDefEqProofs := false) (dsimp := false) only [slots, ↓aw_cond, ↓aw_seq, ↓aw_reg, ↓Qseq_n, ↓ops_nil, ↓ops_cons, ↓eval_tmp, ↓put_some, ↓bK_b, ↓binE_i, ↓bi_lss, ↓op_move, ↓op_bin, List.getD_cons_zero, List.getD_cons_succ, List.set_cons_zero, List.set_cons_succ, Nat.reduceAdd, Nat.reduceSub, Nat.reduceMul, List.replicate, evK_go, reduceIte, Nat.reduceEqDiff, Nat.reduceLT, List.foldl_cons, List.foldl_nil]
        refine cdK_dec (fun h1 => ?_) (fun h1 => ?_)
        · have ham : a < m := by omega
          have haM : a < M.length := by rw [cw.len]; exact ham
          have hsz := cw.sz a
          simp (implicitDefEqProofs := false) (dsimp := false) only [↓aw_seq, ↓aw_block, ↓aw_skip, ↓aw_loop, ↓aw_reg, ↓Qseq_n, ↓ops_nil, ↓ops_cons, ↓eval_int, ↓put_some, ↓op_assign, List.set_cons_zero, List.set_cons_succ, Nat.reduceAdd, Nat.reduceSub, Nat.reduceMul, evK_go, reduceIte, Nat.reduceEqDiff, Nat.reduceLT]
          refine loopW (fun i : Nat => { tm := slots 139 [(0, .d (I .i64 n)), (1, .d (.l (l.map lnD))), (6, .d (.l (M.map liD))), (9, .d (I .i64 a)), (10, .d (I .i64 i))], bx := [], rw := [] })
            (fun i => i ≤ (M.getD a default).length) (fun i => (M.getD a default).length - i) 0 (by simp) ?_ ?_
          · refine Wkn.of [] [] ?_; simp (implicitDefEqProofs := false) (dsimp := false) only [List.set_cons_zero, List.set_cons_succ, Bool.and_self, Nat.reduceAdd, Nat.reduceSub, Nat.reduceMul, List.replicate, evK_go, reduceIte, Nat.reduceEqDiff, Nat.reduceLT, and_self, List.foldl_cons, List.foldl_nil, Int.cast_ofNat_Int, slots, wkL_nil, wkL_cons, wkB_nil, wkR_nil, wkV_j, wkV_d, frz_d, reduceCtorEq]
          · intro i hi
            simp (implicitDefEqProofs := false) (dsimp := false) only [slots, haM, liD, ↓atK_H, ↓atH_map, ↓aw_cond, ↓aw_seq, ↓aw_reg, ↓Qseq_n, ↓ops_nil, ↓ops_cons, ↓eval_tmp, ↓put_some, ↓bK_b, ↓iK_i, ↓lenK_l, ↓binE_i, ↓bi_lss, ↓ldK_q, ↓iaK_l, ↓op_move, ↓op_load, ↓op_bin, ↓op_ia, ↓op_len, ↓cells_l, ↓hd_cons, ↓ty28, ↓sl28, ↓sl44, List.getD_cons_zero, List.getD_cons_succ, List.set_cons_zero, List.set_cons_succ, List.length_cons, List.length_nil, List.length_map, Bool.true_and, Nat.reduceAdd, Nat.reduceSub, Nat.reduceMul, Nat.zero_add, Int.toNat_natCast, List.replicate, evK_go, reduceIte, Nat.reduceEqDiff, Nat.reduceLT, true_and, Int.zero_add, List.foldl_cons, List.foldl_nil, Int.ofNat_lt, Int.natCast_nonneg]
            refine cdK_dec (fun h2 => ?_) (fun h2 => ?_)
            · have hb := getD_mem h2
              obtain ⟨b, hb1, hb2, _⟩ := cw.pt a _ hb
              have hin : inB (b : Int) 0 (n - 1) = true := inB_iff.2 ⟨by omega, by omega⟩
              have hbM : b < M.length := by rw [cw.len]; exact hb2
              have hszb := cw.sz b
              rw [hb1] at hb
              simp (implicitDefEqProofs := false) (dsimp := false) only [haM, h2, hb1, liD, in2_call, hin, ↓cdK_false, ↓atK_H, ↓atH_map, ↓aw_cond, ↓aw_seq, ↓aw_block, ↓aw_skip, ↓aw_loop, ↓aw_reg, ↓Qseq_n, ↓ops_nil, ↓ops_cons, ↓eval_tmp, ↓eval_int, ↓eval_func, ↓put_some, ↓bK_b, ↓iK_i, ↓binE_i, ↓bi_sub, ↓in_i64, ↓ldK_q, ↓iaK_l, ↓op_move, ↓op_assign, ↓op_load, ↓op_bin, ↓op_not, ↓op_ia, ↓op_call, isD_d, ↓fnK_f, ↓call_H, ↓callK_H, ↓allT_nil, ↓allT_cons, ↓td_d, ↓cells_c, ↓cells_l, ↓hd_cons, ↓ty3, ↓ty28, ↓sl28, ↓sl44, List.getD_cons_zero, List.getD_cons_succ, List.set_cons_zero, List.set_cons_succ, List.append_nil, List.length_cons, List.length_nil, List.all_cons, List.all_nil, Bool.true_and, Bool.and_self, Bool.true_or, Nat.reduceAdd, Nat.reduceSub, Nat.reduceMul, Nat.zero_add, Int.toNat_natCast, evK_go, reduceIte, decide_true, Bool.not_true, Nat.reduceEqDiff, Nat.reduceLT, and_self, true_and, Int.zero_add, Int.natCast_nonneg]
              refine ⟨by omega, OrH.l (OrH.l ?_)⟩
              refine loopW (fun j : Nat => { tm := slots 139 [(0, .d (I .i64 n)), (1, .d (.l (l.map lnD))), (6, .d (.l (M.map liD))), (9, .d (I .i64 a)), (10, .d (I .i64 i)), (11, .d (I .i64 b)), (12, .d (I .i64 j))], bx := [], rw := [] })
                (fun j => j ≤ (M.getD b default).length) (fun j => (M.getD b default).length - j) 0 (by simp) ?_ ?_
              · refine Wkn.of [] [] ?_; simp (implicitDefEqProofs := false) (dsimp := false) only [List.set_cons_zero, List.set_cons_succ, Bool.and_self, Nat.reduceAdd, Nat.reduceSub, Nat.reduceMul, List.replicate, evK_go, reduceIte, Nat.reduceEqDiff, Nat.reduceLT, and_self, List.foldl_cons, List.foldl_nil, Int.cast_ofNat_Int, slots, wkL_nil, wkL_cons, wkB_nil, wkR_nil, wkV_j, wkV_d, frz_d, reduceCtorEq]
              · intro j hj
                simp (implicitDefEqProofs := false) (dsimp := false) only [slots, hbM, liD, ↓atK_H, ↓atH_map, ↓aw_cond, ↓aw_seq, ↓aw_reg, ↓Qseq_n, ↓ops_nil, ↓ops_cons, ↓eval_tmp, ↓put_some, ↓bK_b, ↓iK_i, ↓lenK_l, ↓binE_i, ↓bi_lss, ↓ldK_q, ↓iaK_l, ↓op_move, ↓op_load, ↓op_bin, ↓op_ia, ↓op_len, ↓cells_l, ↓hd_cons, ↓ty28, ↓sl28, ↓sl44, List.getD_cons_zero, List.getD_cons_succ, List.set_cons_zero, List.set_cons_succ, List.length_cons, List.length_nil, List.length_map, Bool.true_and, Nat.reduceAdd, Nat.reduceSub, Nat.reduceMul, Nat.zero_add, Int.toNat_natCast, List.replicate, evK_go, reduceIte, Nat.reduceEqDiff, Nat.reduceLT, true_and, Int.zero_add, List.foldl_cons, List.foldl_nil, Int.ofNat_lt, Int.natCast_nonneg]
                refine cdK_dec (fun h3 => ?_) (fun h3 => ?_)
                · have hjm := cw.tr a b _ hb (getD_mem h3)
                  have hs1 : (M.getD a default).length < 2 ^ 62 := by omega
                  simp (implicitDefEqProofs := false) (dsimp := false) only [haM, hbM, h3, liD, hasR_callQ, hs1, hjm, ↓cdK_false, ↓atK_H, ↓atH_map, ↓aw_cond, ↓aw_seq, ↓aw_block, ↓aw_skip, ↓aw_reg, ↓aw_draw, ↓Qseq_n, ↓Qblk_n, ↓ops_nil, ↓ops_cons, ↓eval_tmp, ↓eval_int, ↓eval_func, ↓put_some, ↓bK_b, ↓iK_i, ↓ev_move, ↓ev_load, ↓ev_not, ↓ev_ia, ↓binE_i, ↓bi_add, ↓in_i64, ↓ldK_q, ↓iaK_l, ↓op_move, ↓op_assign, ↓op_bin, isD_d, ↓fnK_f, ↓callKQ_H, ↓allT_nil, ↓allT_cons, ↓td_d, ↓draw_H, ↓h_nil, ↓h_cons, ↓ldH_n, ↓q_call, ↓q_move, ↓q_load, ↓q_un, ↓q_ia, ↓il_move, ↓il_load, ↓il_un, ↓il_ia, ↓il_call, ↓cells_c, ↓cells_l, ↓hd_cons, ↓ty3, ↓ty28, ↓sl28, ↓sl44, List.getD_cons_zero, List.getD_cons_succ, List.set_cons_zero, List.set_cons_succ, List.append_nil, List.length_cons, List.length_nil, List.all_cons, List.all_nil, Bool.true_and, Bool.and_self, Bool.true_or, Nat.reduceAdd, Nat.reduceSub, Nat.reduceMul, Nat.zero_add, Int.toNat_natCast, evK_go, reduceIte, decide_true, Bool.not_true, Nat.reduceEqDiff, Nat.reduceLT, and_self, true_and, Int.zero_add, Int.natCast_nonneg]
                  refine OrH.l ⟨DrawH.of follows_mixed (by kernel_rfl), ?_⟩
                  (repeat refine OrH.l ?_)
                  refine ⟨by omega, j + 1, by omega, by omega, ?_⟩
                  refine Wkn.of [] [] ?_; simp (implicitDefEqProofs := false) (dsimp := false) only [List.set_cons_zero, List.set_cons_succ, Bool.and_self, Nat.reduceAdd, Nat.reduceSub, Nat.reduceMul, List.replicate, evK_go, reduceIte, Nat.reduceEqDiff, Nat.reduceLT, and_self, List.foldl_cons, List.foldl_nil, Int.cast_ofNat_Int, Int.natCast_add, slots, wkL_nil, wkL_cons, wkB_nil, wkR_nil, wkV_j, wkV_d, frz_d, reduceCtorEq]
                · simp (implicitDefEqProofs := false) (dsimp := false) only [↓gdK_t, ↓gval_mk, ↓gvL_zero, ↓gvL_succ, ↓aw_seq, ↓aw_exit, ↓aw_ret, ↓aw_reg, ↓Qseq_n, ↓Qseq_x, ↓Qblk_n, ↓Qblk_x, ↓Qret_r, ↓ops_nil, ↓ops_cons, ↓ops_guard, ↓eval_tmp, ↓eval_int, ↓eval_bool, ↓put_some, ↓lenK_l, ↓binE_i, ↓bi_add, ↓bi_lss, ↓in_i64, ↓op_move, ↓op_assign, ↓op_bin, ↓op_len, ↓td_d, ↓ret_1, ↓st_tm, ↓sl22, List.getD_cons_zero, List.getD_cons_succ, List.set_cons_zero, List.set_cons_succ, List.length_map, Nat.reduceAdd, Nat.reduceSub, Nat.reduceMul, evK_go, reduceIte, Nat.reduceEqDiff, Nat.reduceLT]
                  refine cdK_dec (fun h4 => ?_) (fun h4 => ?_)
                  · simp (implicitDefEqProofs := false) (dsimp := false) only [h4, ↓cdK_true, ↓cdK_not, ↓gdK_t, ↓gval_mk, ↓gvL_zero, ↓gvL_succ, ↓aw_cond, ↓Qseq_n, ↓ops_nil, ↓ops_cons, ↓ops_guard, ↓eval_tmp, ↓put_some, ↓bK_b, ↓binE_i, ↓bi_neq, ↓op_move, ↓op_pick, ↓op_bin, ↓st_tm, List.getD_cons_zero, List.getD_cons_succ, List.set_cons_zero, List.set_cons_succ, Nat.reduceAdd, Nat.reduceSub, Nat.reduceMul, evK_go, reduceIte, decide_true, Nat.reduceEqDiff, Nat.reduceLT, Int.natCast_inj]
                    refine cdK_dec (fun h5 => ?_) (fun h5 => ?_)
                    · subst h5
                      simp (implicitDefEqProofs := false) (dsimp := false) only [↓aw_skip, ↓aw_reg, ↓Qseq_n, ↓Qblk_n, ↓ops_nil, ↓ops_cons, ↓eval_tmp, ↓eval_int, ↓put_some, ↓binE_i, ↓bi_add, ↓in_i64, ↓op_move, ↓op_assign, ↓op_bin, List.getD_cons_zero, List.getD_cons_succ, List.set_cons_zero, List.set_cons_succ, Nat.reduceAdd, Nat.reduceSub, Nat.reduceMul, evK_go, reduceIte, decide_true, Bool.not_true, Nat.reduceEqDiff, Nat.reduceLT]
                      refine ⟨by omega, i + 1, by omega, by omega, ?_⟩
                      refine Wkn.of [] [] ?_; simp (implicitDefEqProofs := false) (dsimp := false) only [List.set_cons_zero, List.set_cons_succ, Bool.and_self, Nat.reduceAdd, Nat.reduceSub, Nat.reduceMul, List.replicate, evK_go, reduceIte, Nat.reduceEqDiff, Nat.reduceLT, and_self, List.foldl_cons, List.foldl_nil, Int.cast_ofNat_Int, Int.natCast_add, slots, wkL_nil, wkL_cons, wkB_nil, wkR_nil, wkV_j, wkV_d, frz_d, reduceCtorEq]
                    · simp (implicitDefEqProofs := false) (dsimp := false) only [h5, ↓optK_some, ↓rwK_mk_, ↓aw_seq, ↓aw_reg, ↓Qseq_n, ↓ops_nil, ↓ops_cons, ↓eval_tmp, ↓eval_nil, ↓eval_func, ↓put_some, ↓dK_d, ↓op_move, ↓op_assign, ↓op_build, ↓op_append, ↓op_call, isD_d, isD_o, ↓fnK_f, ↓call_H, ↓callK_H, ↓allT_nil, ↓allT_cons, ↓allD_nil, ↓allD_cons, ↓td_d, ↓td_o, ↓addRow_mk, ↓app_mk, ↓st_rw, ↓row_sz, ↓row_xs, kill_d, kill_j, kill_nl, kill_o, ↓cells_c, ↓cells_s, ↓one_i, ↓ap_, ↓ap_nl, ↓ap_o, ↓src_l, ↓bs_, ↓op_bs, ↓bsL_f, ↓stored_mk, ↓sl_nil, ↓sl_cons, ↓sT_move, ↓sT_assign, ↓sT_extract, ↓sT_build, ↓sT_bs, ↓sT_call, ↓vsz_agg, ↓inO_1, ↓fm_nil, ↓fm_cons, ↓sl22, ↓ty35, ↓zb35, ↓bd35, List.getD_cons_zero, List.getD_cons_succ, List.set_cons_zero, List.set_cons_succ, List.cons_append, List.nil_append, List.append_nil, List.map_cons, List.map_nil, List.length_cons, List.length_nil, List.length_map, List.all_cons, List.all_nil, Bool.and_true, Bool.true_and, Bool.and_self, Bool.and_false, Bool.or_false, Nat.reduceAdd, Nat.reduceSub, Nat.reduceMul, Nat.zero_add, evK_go, reduceIte, decide_false, Bool.not_false, Nat.reduceEqDiff, Nat.reduceLT, and_self, true_and, and_true, Int.zero_add, List.drop_zero]
                      have hm62 : (l ++ [((a : Int), (b : Int))]).length < 2 ^ 62 := by simp; omega
                      obtain ⟨hc2, hM2⟩ := more a b hb h5 (by omega)
                      refine ⟨rfl, fun y hy => ?_, ⟨by omega, by omega⟩, ⟨rfl, by decide⟩, rfl, ⟨fun _ => trivial, by omega, by omega⟩, OrH.r (Loud.frz { tm := slots 139 [(0, .d (I .i64 n)), (1, .d (.l (l.map lnD))), (6, .d (.l (M.map liD))), (9, .d (I .i64 a)), (10, .d (I .i64 i)), (11, .d (I .i64 b)), (121, .d (I .i64 n)), (127, .d (.l ((l ++ [((a : Int), (b : Int))]).map lnD)))], bx := [], rw := [] } (Wkn.of [] [] ?_) ?_)⟩
                      · obtain ⟨q, _, rfl⟩ := List.mem_map.1 hy
                        exact ⟨rfl, rfl⟩
                      · have e1 : List.take (l.length + 1) (l.map lnD ++ [D.s [I .i64 a, I .i64 b]]) = (l ++ [((a : Int), (b : Int))]).map lnD := by
                          rw [List.map_append]
                          exact List.take_of_length_le (by simp)
                        simp (implicitDefEqProofs := false) (dsimp := false) only [e1, ↓optK_some, ↓row_xs, List.getD_cons_zero, List.set_cons_zero, List.set_cons_succ, Bool.and_self, Nat.reduceAdd, Nat.reduceSub, Nat.reduceMul, List.replicate, evK_go, reduceIte, Nat.reduceEqDiff, Nat.reduceLT, and_self, not_false_eq_true, List.drop_zero, List.foldl_cons, List.foldl_nil, slots, wkL_nil, wkL_cons, wkB_nil, wkR_nil, wkV_j, wkV_d, frz_d, frz_o, dl_eq, reduceCtorEq, List.not_mem_nil]
                      · have hM62 : M.length < 2 ^ 62 ∧ ∀ x ∈ M, x.length < 2 ^ 62 := by
                          refine ⟨by rw [cw.len]; omega, fun x hx => ?_⟩
                          obtain ⟨q, hq, rfl⟩ := List.mem_iff_getElem.1 hx
                          have := cw.sz q
                          rw [List.getD_eq_getElem?_getD, List.getElem?_eq_getElem hq, Option.getD_some] at this
                          omega
                        simp (implicitDefEqProofs := false) (dsimp := false) only [slots, call_call, hm62, hc2, hM2, erows_call, eval_nilI, ↓er_neq, ↓cdK_false, ↓gdK_f, ↓gval_mk, ↓gvL_zero, ↓gvL_succ, ↓nthK_H, ↓nthH_zero, ↓nthH_succ, ↓aw_cond, ↓aw_seq, ↓aw_skip, ↓aw_reg, ↓Qseq_n, ↓Qblk_n, ↓ops_nil, ↓ops_cons, ↓ops_guard, ↓eval_tmp, ↓eval_int, ↓eval_func, ↓put_some, ↓bK_b, ↓tK_t, ↓binE_i, ↓bi_add, ↓in_i64, ↓op_move, ↓op_assign, ↓op_pick, ↓op_bin, ↓op_not, ↓op_extract, ↓op_call, isD_d, ↓fnK_f, ↓call_H, ↓callK_H, ↓allT_nil, ↓allT_cons, ↓td_d, ↓st_tm, List.getD_cons_zero, List.getD_cons_succ, List.set_cons_zero, List.set_cons_succ, List.append_nil, List.all_cons, List.all_nil, Bool.true_and, Bool.and_self, Bool.true_or, Nat.reduceAdd, Nat.reduceSub, Nat.reduceMul, List.replicate, evK_go, reduceIte, decide_true, Bool.not_true, Nat.reduceEqDiff, Nat.reduceLT, and_self, true_and, List.foldl_cons, List.foldl_nil]
                        (repeat refine OrH.l ?_)
                        refine ⟨hM62, ?_⟩
                        (repeat refine OrH.l ?_)
                        refine ⟨by omega, i + 1, by omega, by omega, ?_⟩
                        refine Wkn.of [] [] ?_; simp (implicitDefEqProofs := false) (dsimp := false) only [Bool.and_self, Nat.reduceAdd, Nat.reduceSub, Nat.reduceMul, evK_go, reduceIte, Nat.reduceEqDiff, Nat.reduceLT, and_self, Int.cast_ofNat_Int, Int.natCast_add, slots, wkL_nil, wkL_cons, wkB_nil, wkR_nil, wkV_j, wkV_d, frz_d, reduceCtorEq]
                  · simp (implicitDefEqProofs := false) (dsimp := false) only [h4, ↓cdK_false, ↓gdK_t, ↓gval_mk, ↓gvL_zero, ↓gvL_succ, ↓aw_cond, ↓aw_skip, ↓aw_reg, ↓Qseq_n, ↓Qblk_n, ↓ops_nil, ↓ops_cons, ↓ops_guard, ↓eval_tmp, ↓eval_int, ↓eval_bool, ↓put_some, ↓bK_b, ↓binE_i, ↓bi_add, ↓in_i64, ↓op_move, ↓op_assign, ↓op_pick, ↓op_bin, ↓st_tm, List.getD_cons_zero, List.getD_cons_succ, List.set_cons_zero, List.set_cons_succ, Nat.reduceAdd, Nat.reduceSub, Nat.reduceMul, evK_go, reduceIte, decide_false, Nat.reduceEqDiff, Nat.reduceLT]
                    refine ⟨by omega, i + 1, by omega, by omega, ?_⟩
                    refine Wkn.of [] [] ?_; simp (implicitDefEqProofs := false) (dsimp := false) only [List.set_cons_zero, List.set_cons_succ, Bool.and_self, Nat.reduceAdd, Nat.reduceSub, Nat.reduceMul, List.replicate, evK_go, reduceIte, Nat.reduceEqDiff, Nat.reduceLT, and_self, List.foldl_cons, List.foldl_nil, Int.cast_ofNat_Int, Int.natCast_add, slots, wkL_nil, wkL_cons, wkB_nil, wkR_nil, wkV_j, wkV_d, frz_d, reduceCtorEq]
            · simp (implicitDefEqProofs := false) (dsimp := false) only [↓aw_seq, ↓aw_exit, ↓aw_ret, ↓aw_reg, ↓Qseq_n, ↓Qseq_x, ↓Qblk_n, ↓Qblk_x, ↓Qret_r, ↓ops_nil, ↓ops_cons, ↓eval_tmp, ↓eval_int, ↓eval_bool, ↓put_some, ↓binE_i, ↓bi_add, ↓in_i64, ↓op_move, ↓op_assign, ↓op_bin, ↓td_d, ↓ret_1, List.getD_cons_zero, List.getD_cons_succ, List.set_cons_zero, List.set_cons_succ, Nat.reduceAdd, Nat.reduceSub, Nat.reduceMul, evK_go, reduceIte, Nat.reduceEqDiff, Nat.reduceLT]
              refine ⟨by omega, a + 1, by omega, by omega, ?_⟩
              refine Wkn.of [] [] ?_; simp (implicitDefEqProofs := false) (dsimp := false) only [List.set_cons_zero, List.set_cons_succ, Bool.and_self, Nat.reduceAdd, Nat.reduceSub, Nat.reduceMul, List.replicate, evK_go, reduceIte, Nat.reduceEqDiff, Nat.reduceLT, and_self, List.foldl_cons, List.foldl_nil, Int.cast_ofNat_Int, Int.natCast_add, slots, wkL_nil, wkL_cons, wkB_nil, wkR_nil, wkV_j, wkV_d, frz_d, reduceCtorEq]
        · simp (implicitDefEqProofs := false) (dsimp := false) only [↓aw_seq, ↓aw_exit, ↓aw_ret, ↓aw_reg, ↓Qseq_n, ↓Qseq_x, ↓Qblk_x, ↓Qret_r, ↓ops_nil, ↓ops_cons, ↓eval_tmp, ↓eval_bool, ↓put_some, ↓op_assign, ↓td_d, ↓ret_1, List.getD_cons_zero, List.getD_cons_succ, List.set_cons_zero, List.set_cons_succ, Nat.reduceAdd, Nat.reduceSub, Nat.reduceMul, evK_go, reduceIte, Nat.reduceEqDiff, Nat.reduceLT]
end Go.Proofs

namespace Go.Proofs
open Go.Aw
set_option linter.unusedSimpArgs false
set_option maxRecDepth 10000
theorem close_mem {n : Int} {l : List (Int × Int)} (hc : chk n l = 0) (i j : Nat) : (j : Int) ∈ (closeAll n l).getD i default ↔ Path1 (natL l) i j := by
  have ok := chk_ok hc
  have e : closeAll n l = (war n.toNat (natL l)).map ptsI := if_pos hc
  rw [e, mapP_get, ptsI_mem, war_bit ok.good]
  exact ⟨fun h => h.2, fun h => ⟨by have := (h.lt ok.good).2; have := ok.hi; omega, h⟩⟩
theorem close_congr {n : Int} {l l' : List (Int × Int)} (hc : chk n l = 0) (hc' : chk n l' = 0) (h : ∀ i j, Path1 (natL l) i j ↔ Path1 (natL l') i j) : closeAll n l = closeAll n l' := by
  have ok := chk_ok hc
  have ok' := chk_ok hc'
  rw [show closeAll n l = (war n.toNat (natL l)).map ptsI from if_pos hc, show closeAll n l' = (war n.toNat (natL l')).map ptsI from if_pos hc']
  congr 1
  refine List.ext_getElem (by rw [war_len ok.good, war_len ok'.good]) fun i h1 h2 => ?_
  apply bits_eq
  intro j
  have g1 := war_bit ok.good i j
  have g2 := war_bit ok'.good i j
  rw [List.getD_eq_getElem?_getD, List.getElem?_eq_getElem h1, Option.getD_some] at g1
  rw [List.getD_eq_getElem?_getD, List.getElem?_eq_getElem h2, Option.getD_some] at g2
  rw [Bool.eq_iff_iff, g1, g2, h]
def intP (p : Nat × Nat) : Int × Int := ((p.1 : Int), (p.2 : Int))
def intL (l : List (Nat × Nat)) : List (Int × Int) := l.map intP
theorem lnN_int (l : List (Nat × Nat)) : l.map lnN = (intL l).map lnD := by unfold intL; rw [List.map_map]; rfl
theorem natL_int (l : List (Nat × Nat)) : natL (intL l) = l := by
  unfold natL intL
  rw [List.map_map]
  exact List.map_id _
theorem chk_sub {n : Int} {l l' : List (Int × Int)} (hc : chk n l = 0) (hl : l'.length ≤ 24) (h : ∀ p ∈ l', p ∈ l) : chk n l' = 0 := by
  rw [chk_iff] at hc ⊢
  exact ⟨hc.1, hl, fun p hp => hc.2.2 p (h p hp)⟩
theorem intL_sub {l : List (Int × Int)} {F : List (Nat × Nat)} (hl : ∀ p ∈ l, 0 ≤ p.1 ∧ 0 ≤ p.2) (h : ∀ p ∈ F, p ∈ natL l) : ∀ p ∈ intL F, p ∈ l := by
  intro p hp
  obtain ⟨q, hq, rfl⟩ := List.mem_map.1 hp
  obtain ⟨r, hr, rfl⟩ := List.mem_map.1 (h q hq)
  have := hl r hr
  have e : intP (natP r) = r := by
    show ((r.1.toNat : Int), (r.2.toNat : Int)) = r
    rw [Int.toNat_of_nonneg this.1, Int.toNat_of_nonneg this.2]
  rw [e]; exact hr
theorem closeM {n : Int} {l : List (Int × Int)} (hc : chk n l = 0) : (closeAll n l).length < 2 ^ 62 ∧ ∀ x ∈ closeAll n l, x.length < 2 ^ 62 := by
  have cw := closeW hc
  have h8 := cw.hi
  refine ⟨by rw [cw.len]; omega, fun x hx => ?_⟩
  obtain ⟨q, hq, rfl⟩ := List.mem_iff_getElem.1 hx
  have := cw.sz q
  rw [List.getD_eq_getElem?_getD, List.getElem?_eq_getElem hq, Option.getD_some] at this
  omega
structure FW (n : Int) (l F : List (Int × Int)) : Prop where
  chk0 : chk n l = 0
  chkF : chk n F = 0
  same : closeAll n F = closeAll n l
  len : F.length ≤ l.length
  sub : ∀ p ∈ F, p ∈ l
  need : ∀ k : Nat, k < F.length → chk n (butL F (k : Int)) = 0 ∧ closeAll n (butL F (k : Int)) ≠ closeAll n l
theorem fewW {n : Int} {l : List (Int × Int)} (h : topoE n l = 0) : FW n l (intL (fewR n l)) := by
  obtain ⟨hc, o, ho⟩ := topoE_zero h
  have ok := chk_ok hc
  have h8 := ok.hi
  have e : fewR n l = few n.toNat (natL l) := if_pos h
  rw [e]
  have ht := topo_some (by omega) ok.good ho
  have hlen : (intL (few n.toNat (natL l))).length ≤ l.length := by
    unfold intL; rw [List.length_map]
    have := few_len (n := n.toNat) (by omega) ok.good
    rw [natL_len] at this; exact this
  have hsub := intL_sub ok.rng (F := few n.toNat (natL l)) fun p hp => few_sub (by omega) ok.good hp
  have h24 := ok.len
  have hcF := chk_sub hc (by omega) hsub
  refine ⟨hc, hcF, close_congr hcF hc fun i j => by rw [natL_int]; exact few_path (by omega) ok.good ht, hlen, hsub, fun k hk => ?_⟩
  have hk' : k < (few n.toNat (natL l)).length := by simpa [intL] using hk
  have hcB : chk n (butL (intL (few n.toNat (natL l))) (k : Int)) = 0 := chk_sub hcF (by
    have := butK_len (intL (few n.toNat (natL l))) (k : Int) (intL (few n.toNat (natL l))).length
    unfold butL; omega) fun p hp => but_mem hp
  refine ⟨hcB, fun e => ?_⟩
  obtain ⟨i, j, h1, h2⟩ := few_need (by omega) ok.good hk'
  have h3 := (close_mem hc i j).2 h1
  rw [← e] at h3
  have h4 := (close_mem hcB i j).1 h3
  have e2 : natL (butL (intL (few n.toNat (natL l))) (k : Int)) = (few n.toNat (natL l)).eraseIdx k := by
    show (butL (intL (few n.toNat (natL l))) (k : Int)).map natP = _
    rw [← but_map]
    have e3 : (intL (few n.toNat (natL l))).map natP = few n.toNat (natL l) := natL_int _
    rw [e3, but_erase _ _ hk']
  rw [e2] at h4
  exact h2 h4
theorem lCloseFew_spec (n : Int) (l : List (Int × Int)) (k : Int) (_hn : -9223372036854775808 ≤ n ∧ n ≤ 9223372036854775807) (hpre : l.length < 2 ^ 43) (_hk : -9223372036854775808 ≤ k ∧ k ≤ 9223372036854775807) : FnD Try.prog 8 [I .i64 n, .l (l.map lnD), I .i64 k] (Bo true) := by
  have hl62 : l.length < 2 ^ 62 := by omega
  refine FnD.go Try.func8 rfl rfl Try.results8 Try.ntmps8 ?_
  simp (implicitDefEqProofs := false) (dsimp := false) only [↓aw_seq, ↓aw_reg, ↓Qseq_n, ↓ops_nil, ↓ops_cons, ↓eval_bool, ↓eval_func, ↓put_some, ↓op_assign, ↓op_call, isD_d, ↓fnK_f, ↓call_H, ↓callK_H, ↓allT_nil, ↓td_d, List.set_cons_zero, List.set_cons_succ, List.cons_append, List.nil_append, List.append_nil, List.map_cons, List.map_nil, List.length_cons, List.length_nil, List.all_nil, Bool.and_self, Nat.reduceAdd, Nat.reduceSub, Nat.reduceMul, Nat.zero_add, List.replicate, evK_go, reduceIte, Nat.reduceEqDiff, Nat.reduceLT, and_self, Int.zero_add]
  simp (implicitDefEqProofs := false) (dsimp := false) only [cfact_call, few_call, hl62, eval_nilI, ↓er_neq, ↓cdK_false, ↓cdK_not, ↓nthK_H, ↓nthH_zero, ↓nthH_succ, ↓aw_cond, ↓aw_seq, ↓aw_skip, ↓aw_reg, ↓Qseq_n, ↓ops_nil, ↓ops_cons, ↓eval_tmp, ↓eval_func, ↓put_some, ↓bK_b, ↓tK_t, ↓op_move, ↓op_assign, ↓op_bin, ↓op_not, ↓op_extract, ↓op_call, isD_d, ↓fnK_f, ↓call_H, ↓callK_H, ↓allT_nil, ↓allT_cons, ↓td_d, List.getD_cons_zero, List.getD_cons_succ, List.set_cons_zero, List.set_cons_succ, List.append_nil, List.all_cons, List.all_nil, Bool.true_and, Bool.and_self, Bool.true_or, Nat.reduceAdd, Nat.reduceSub, Nat.reduceMul, evK_go, reduceIte, Bool.not_true, Nat.reduceEqDiff, Nat.reduceLT, and_self, true_and]
  (repeat refine OrH.l ?_)
  refine cdK_dec (fun hc => ?_) (fun hc => ?_)
  rotate_left
  · have e1 : fewR n l = [] := if_neg hc
    simp (implicitDefEqProofs := false) (dsimp := false) only [e1, ↓aw_seq, ↓aw_ret, ↓aw_reg, ↓Qseq_n, ↓Qseq_r, ↓Qret_r, ↓ops_nil, ↓ops_cons, ↓eval_tmp, ↓eval_int, ↓put_some, ↓lenK_l, ↓binE_i, ↓bi_eql, ↓op_move, ↓op_assign, ↓op_bin, ↓op_len, ↓td_d, ↓ret_1, ↓sl22, List.getD_cons_zero, List.getD_cons_succ, List.set_cons_zero, List.set_cons_succ, List.map_nil, List.length_nil, Nat.reduceAdd, Nat.reduceSub, Nat.reduceMul, evK_go, reduceIte, decide_true, Nat.reduceEqDiff, Nat.reduceLT, Int.cast_ofNat_Int]
  have fw := fewW hc
  have hM62 := closeM fw.chk0
  rw [lnN_int]
  generalize intL (fewR n l) = F at fw ⊢
  have hF62 : F.length < 2 ^ 62 := by have := fw.len; omega
  have hFl : ¬ F.length > l.length := by have := fw.len; omega
  have h24 := fw.len
  simp (implicitDefEqProofs := false) (dsimp := false) only [call_call, hl62, hF62, fw.chk0, fw.chkF, fw.same, erows_call, hM62, hFl, eval_nilI, ↓er_neq, ↓cdK_false, ↓gdK_f, ↓gval_mk, ↓gvL_zero, ↓gvL_succ, ↓nthK_H, ↓nthH_zero, ↓nthH_succ, ↓aw_cond, ↓aw_seq, ↓aw_block, ↓aw_skip, ↓aw_loop, ↓aw_reg, ↓Qseq_n, ↓ops_nil, ↓ops_cons, ↓ops_guard, ↓eval_tmp, ↓eval_int, ↓eval_func, ↓put_some, ↓bK_b, ↓lenK_l, ↓tK_t, ↓binE_i, ↓bi_gtr, ↓op_move, ↓op_assign, ↓op_pick, ↓op_bin, ↓op_not, ↓op_extract, ↓op_len, ↓op_call, isD_d, ↓fnK_f, ↓call_H, ↓callK_H, ↓allT_nil, ↓allT_cons, ↓td_d, ↓st_tm, ↓sl22, List.getD_cons_zero, List.getD_cons_succ, List.set_cons_zero, List.set_cons_succ, List.append_nil, List.length_map, List.all_cons, List.all_nil, Bool.true_and, Bool.and_self, Bool.true_or, Nat.reduceAdd, Nat.reduceSub, Nat.reduceMul, evK_go, reduceIte, decide_true, decide_false, Bool.not_true, Nat.reduceEqDiff, Nat.reduceLT, and_self, true_and, Int.ofNat_lt]
  (repeat refine OrH.l ?_)
  refine ⟨hM62.2, ?_⟩
  refine loopW (fun i : Nat => { tm := slots 102 [(0, .d (I .i64 n)), (1, .d (.l (l.map lnD))), (2, .d (I .i64 k)), (8, .d (.l (F.map lnD))), (10, .d (.l ((closeAll n l).map liD))), (14, .d (I .i64 i))], bx := [], rw := [] })
    (fun i => i ≤ F.length) (fun i => F.length - i) 0 (by simp) ?_ ?_
  · refine Wkn.of [] [] ?_; simp (implicitDefEqProofs := false) (dsimp := false) only [List.set_cons_zero, List.set_cons_succ, Bool.and_self, Nat.reduceAdd, Nat.reduceSub, Nat.reduceMul, List.replicate, evK_go, reduceIte, Nat.reduceEqDiff, Nat.reduceLT, and_self, List.foldl_cons, List.foldl_nil, Int.cast_ofNat_Int, slots, wkL_nil, wkL_cons, wkB_nil, wkR_nil, wkV_j, wkV_d, frz_d, reduceCtorEq]
  · intro i hi
    simp (implicitDefEqProofs := false) (dsimp := false) only [slots, ↓aw_cond, ↓aw_seq, ↓aw_reg, ↓Qseq_n, ↓ops_nil, ↓ops_cons, ↓eval_tmp, ↓put_some, ↓bK_b, ↓lenK_l, ↓binE_i, ↓bi_lss, ↓op_move, ↓op_bin, ↓op_len, ↓sl22, List.getD_cons_zero, List.getD_cons_succ, List.set_cons_zero, List.set_cons_succ, List.length_map, Nat.reduceAdd, Nat.reduceSub, Nat.reduceMul, List.replicate, evK_go, reduceIte, Nat.reduceEqDiff, Nat.reduceLT, List.foldl_cons, List.foldl_nil, Int.ofNat_lt]
    refine cdK_dec (fun h => ?_) (fun h => ?_)
    · have hm := fw.sub _ (getD_mem h)
      simp (implicitDefEqProofs := false) (dsimp := false) only [h, lnD, goes_callQ, hl62, ↓cdK_not, ↓atK_H, ↓atH_map, ↓aw_cond, ↓aw_seq, ↓aw_block, ↓aw_skip, ↓aw_draw, ↓Qseq_n, ↓eval_tmp, ↓eval_func, ↓put_some, ↓bK_b, ↓iK_i, ↓ev_move, ↓ev_load, ↓ev_not, ↓ev_fa, ↓ev_ia, ↓ldK_q, ↓faK_q, ↓iaK_l, isD_d, ↓fnK_f, ↓callKQ_H, ↓allT_nil, ↓allT_cons, ↓td_d, ↓draw_H, ↓h_nil, ↓h_cons, ↓ldH_n, ↓q_call, ↓q_move, ↓q_load, ↓q_un, ↓q_fa, ↓q_ia, ↓il_move, ↓il_load, ↓il_un, ↓il_fa, ↓il_ia, ↓il_call, ↓cells_s, ↓hd_cons, ↓ty3, ↓sl22, ↓ty35, ↓fd35_0, ↓fd35_1, List.getD_cons_zero, List.getD_cons_succ, List.set_cons_zero, List.set_cons_succ, List.append_nil, List.length_cons, List.length_nil, List.all_cons, List.all_nil, Bool.true_and, Bool.and_self, Bool.true_or, Nat.reduceAdd, Nat.reduceSub, Nat.reduceMul, Nat.zero_add, Int.toNat_natCast, evK_go, reduceIte, decide_true, Nat.reduceEqDiff, Nat.reduceLT, and_self, true_and, Int.zero_add, List.drop_zero, List.drop_succ_cons, Int.natCast_nonneg]
      have e : ((F.getD i default).1, (F.getD i default).2) = F.getD i default := rfl
      refine OrH.l ⟨DrawH.of follows_mixed (by kernel_rfl), ?_⟩
      simp (implicitDefEqProofs := false) (dsimp := false) only [e, hm, ↓cdK_true, ↓aw_skip, ↓aw_reg, ↓Qseq_n, ↓Qblk_n, ↓ops_nil, ↓ops_cons, ↓eval_tmp, ↓eval_int, ↓put_some, ↓binE_i, ↓bi_add, ↓in_i64, ↓op_move, ↓op_assign, ↓op_bin, List.getD_cons_zero, List.getD_cons_succ, List.set_cons_zero, List.set_cons_succ, Nat.reduceAdd, Nat.reduceSub, Nat.reduceMul, evK_go, reduceIte, decide_true, Bool.not_true, Nat.reduceEqDiff, Nat.reduceLT]
      (repeat refine OrH.l ?_)
      refine ⟨by omega, i + 1, by omega, by omega, ?_⟩
      refine Wkn.of [] [] ?_; simp (implicitDefEqProofs := false) (dsimp := false) only [List.set_cons_zero, List.set_cons_succ, Bool.and_self, Nat.reduceAdd, Nat.reduceSub, Nat.reduceMul, List.replicate, evK_go, reduceIte, Nat.reduceEqDiff, Nat.reduceLT, and_self, List.foldl_cons, List.foldl_nil, Int.cast_ofNat_Int, Int.natCast_add, slots, wkL_nil, wkL_cons, wkB_nil, wkR_nil, wkV_j, wkV_d, frz_d, reduceCtorEq]
    · simp (implicitDefEqProofs := false) (dsimp := false) only [in2_call, ↓cdK_not, ↓aw_cond, ↓aw_seq, ↓aw_exit, ↓aw_reg, ↓Qseq_n, ↓Qseq_x, ↓Qblk_x, ↓ops_nil, ↓ops_cons, ↓eval_tmp, ↓eval_int, ↓eval_func, ↓put_some, ↓bK_b, ↓lenK_l, ↓binE_i, ↓bi_sub, ↓in_i64, ↓op_move, ↓op_bin, ↓op_not, ↓op_len, ↓op_call, isD_d, ↓fnK_f, ↓call_H, ↓callK_H, ↓allT_nil, ↓allT_cons, ↓td_d, ↓sl22, List.getD_cons_zero, List.getD_cons_succ, List.set_cons_zero, List.set_cons_succ, List.append_nil, List.length_map, List.all_cons, List.all_nil, Bool.true_and, Bool.and_self, Bool.true_or, Nat.reduceAdd, Nat.reduceSub, Nat.reduceMul, evK_go, reduceIte, Nat.reduceEqDiff, Nat.reduceLT, and_self, true_and]
      refine ⟨by omega, ?_⟩
      (repeat refine OrH.l ?_)
      refine cdK_split (fun hk => ?_) (fun hk => ?_)
      rotate_left
      · simp (implicitDefEqProofs := false) (dsimp := false) only [↓aw_seq, ↓aw_ret, ↓aw_reg, ↓Qseq_n, ↓Qseq_r, ↓Qret_r, ↓ops_nil, ↓ops_cons, ↓eval_tmp, ↓eval_bool, ↓put_some, ↓op_assign, ↓td_d, ↓ret_1, List.getD_cons_zero, List.getD_cons_succ, List.set_cons_zero, List.set_cons_succ, Nat.reduceAdd, Nat.reduceSub, Nat.reduceMul, evK_go, reduceIte, Nat.reduceEqDiff, Nat.reduceLT]
      rw [inB_iff] at hk
      obtain ⟨x, rfl⟩ := Int.eq_ofNat_of_zero_le hk.1
      obtain ⟨hB1, hB2⟩ := fw.need x (by omega)
      have hB62 : (butL F (x : Int)).length < 2 ^ 62 := by
        have := butK_len F (x : Int) F.length
        unfold butL; omega
      have hB3 : ¬ closeAll n l = closeAll n (butL F (x : Int)) := fun e => hB2 e.symm
      have hF43 : F.length < 2 ^ 43 := by omega
      simp (implicitDefEqProofs := false) (dsimp := false) only [but_callD, hF43, call_call, hB62, hB1, hB3, erows_call, hM62, eval_nilI, ↓er_eql, ↓cdK_true, ↓gdK_t, ↓gval_mk, ↓gvL_zero, ↓gvL_succ, ↓nthK_H, ↓nthH_zero, ↓nthH_succ, ↓aw_seq, ↓aw_ret, ↓aw_skip, ↓aw_reg, ↓Qseq_n, ↓Qret_r, ↓ops_nil, ↓ops_cons, ↓ops_guard, ↓eval_tmp, ↓eval_func, ↓put_some, ↓bK_b, ↓tK_t, ↓op_move, ↓op_assign, ↓op_pick, ↓op_bin, ↓op_not, ↓op_extract, ↓op_call, isD_d, ↓fnK_f, ↓call_H, ↓callK_H, ↓allT_nil, ↓allT_cons, ↓td_d, ↓ret_1, ↓st_tm, List.getD_cons_zero, List.getD_cons_succ, List.set_cons_zero, List.set_cons_succ, List.append_nil, List.all_cons, List.all_nil, Bool.and_true, Bool.true_and, Bool.and_self, Bool.true_or, Nat.reduceAdd, Nat.reduceSub, Nat.reduceMul, evK_go, reduceIte, decide_true, decide_false, Bool.not_false, Nat.reduceEqDiff, Nat.reduceLT, and_self, true_and, and_true]
      (repeat refine OrH.l ?_)
      exact hM62.2
end Go.Proofs

namespace Go.Proofs
open Go.Aw
set_option linter.unusedSimpArgs false
set_option maxRecDepth 10000
def dfL : List (Int × Int) := [(0, 1), (1, 2), (1, 3), (2, 3)]
theorem df1_spec  : FnD Try.prog 53 [I .i64 4, .l [.s [I .i64 0, I .i64 1], .s [I .i64 1, I .i64 2], .s [I .i64 1, I .i64 3], .s [I .i64 2, I .i64 3]], I .i64 0] (.t [.l [.l [I .i64 0], .l [I .i64 0, I .i64 1], .l [I .i64 0, I .i64 1, I .i64 2], .l [I .i64 0, I .i64 1, I .i64 3]], erD 0]) := by
  have h := dof_spec 4 dfL 0 (by decide)
  rw [show domOf 4 dfL 0 = [[0], [0, 1], [0, 1, 2], [0, 1, 3]] by decide +kernel, show domE 4 dfL 0 = 0 by decide +kernel] at h
  exact h
theorem df1_call  (pure : Bool) (σ : St) (dst : Option Tmp) (K : St → Prop) : CallH Try.prog 53 [I .i64 4, .l [.s [I .i64 0, I .i64 1], .s [I .i64 1, I .i64 2], .s [I .i64 1, I .i64 3], .s [I .i64 2, I .i64 3]], I .i64 0] pure σ dst (.mk : Hid K) = OrH ((pure || D.flat (.t [.l [.l [I .i64 0], .l [I .i64 0, I .i64 1], .l [I .i64 0, I .i64 1, I .i64 2], .l [I .i64 0, I .i64 1, I .i64 3]], erD 0])) = true ∧ evK (σ.put dst (.d (.t [.l [.l [I .i64 0], .l [I .i64 0, I .i64 1], .l [I .i64 0, I .i64 1, I .i64 2], .l [I .i64 0, I .i64 1, I .i64 3]], erD 0]))) (.mk : Hid K)) (.mk : Hid (CallH Try.prog 53 [I .i64 4, .l [.s [I .i64 0, I .i64 1], .s [I .i64 1, I .i64 2], .s [I .i64 1, I .i64 3], .s [I .i64 2, I .i64 3]], I .i64 0] pure σ dst (.mk : Hid K))) := CallH.eq0 (df1_spec ) pure σ dst K
theorem df1_callQ  (pure : Bool) (C : V → Prop) : CallQ Try.prog 53 [I .i64 4, .l [.s [I .i64 0, I .i64 1], .s [I .i64 1, I .i64 2], .s [I .i64 1, I .i64 3], .s [I .i64 2, I .i64 3]], I .i64 0] pure (.mk : Hid C) = OrH ((pure || D.flat (.t [.l [.l [I .i64 0], .l [I .i64 0, I .i64 1], .l [I .i64 0, I .i64 1, I .i64 2], .l [I .i64 0, I .i64 1, I .i64 3]], erD 0])) = true ∧ evK (V.d (.t [.l [.l [I .i64 0], .l [I .i64 0, I .i64 1], .l [I .i64 0, I .i64 1, I .i64 2], .l [I .i64 0, I .i64 1, I .i64 3]], erD 0])) (.mk : Hid C)) (.mk : Hid (CallQ Try.prog 53 [I .i64 4, .l [.s [I .i64 0, I .i64 1], .s [I .i64 1, I .i64 2], .s [I .i64 1, I .i64 3], .s [I .i64 2, I .i64 3]], I .i64 0] pure (.mk : Hid C))) := CallQ.eq0 (df1_spec ) pure C
theorem df2_spec  : FnD Try.prog 54 [I .i64 4, .l [.s [I .i64 0, I .i64 1], .s [I .i64 1, I .i64 2], .s [I .i64 1, I .i64 3], .s [I .i64 2, I .i64 3]], I .i64 0] (.t [.l [I .i64 (-1), I .i64 0, I .i64 1, I .i64 1], erD 0]) := by
  have h := dlast_spec 4 dfL 0 (by decide)
  rw [show domLast 4 dfL 0 = [-1, 0, 1, 1] by decide +kernel, show domE 4 dfL 0 = 0 by decide +kernel] at h
  exact h
theorem df2_call  (pure : Bool) (σ : St) (dst : Option Tmp) (K : St → Prop) : CallH Try.prog 54 [I .i64 4, .l [.s [I .i64 0, I .i64 1], .s [I .i64 1, I .i64 2], .s [I .i64 1, I .i64 3], .s [I .i64 2, I .i64 3]], I .i64 0] pure σ dst (.mk : Hid K) = OrH ((pure || D.flat (.t [.l [I .i64 (-1), I .i64 0, I .i64 1, I .i64 1], erD 0])) = true ∧ evK (σ.put dst (.d (.t [.l [I .i64 (-1), I .i64 0, I .i64 1, I .i64 1], erD 0]))) (.mk : Hid K)) (.mk : Hid (CallH Try.prog 54 [I .i64 4, .l [.s [I .i64 0, I .i64 1], .s [I .i64 1, I .i64 2], .s [I .i64 1, I .i64 3], .s [I .i64 2, I .i64 3]], I .i64 0] pure σ dst (.mk : Hid K))) := CallH.eq0 (df2_spec ) pure σ dst K
theorem df2_callQ  (pure : Bool) (C : V → Prop) : CallQ Try.prog 54 [I .i64 4, .l [.s [I .i64 0, I .i64 1], .s [I .i64 1, I .i64 2], .s [I .i64 1, I .i64 3], .s [I .i64 2, I .i64 3]], I .i64 0] pure (.mk : Hid C) = OrH ((pure || D.flat (.t [.l [I .i64 (-1), I .i64 0, I .i64 1, I .i64 1], erD 0])) = true ∧ evK (V.d (.t [.l [I .i64 (-1), I .i64 0, I .i64 1, I .i64 1], erD 0])) (.mk : Hid C)) (.mk : Hid (CallQ Try.prog 54 [I .i64 4, .l [.s [I .i64 0, I .i64 1], .s [I .i64 1, I .i64 2], .s [I .i64 1, I .i64 3], .s [I .i64 2, I .i64 3]], I .i64 0] pure (.mk : Hid C))) := CallQ.eq0 (df2_spec ) pure C
theorem df3_spec  : FnD Try.prog 39 [.l [.l [I .i64 0], .l [I .i64 0, I .i64 1], .l [I .i64 0, I .i64 1, I .i64 2], .l [I .i64 0, I .i64 1, I .i64 3]], .l [.l [I .i64 0], .l [I .i64 0, I .i64 1], .l [I .i64 0, I .i64 1, I .i64 2], .l [I .i64 0, I .i64 1, I .i64 3]]] (Bo true) := by
  have h := erows_spec [[0], [0, 1], [0, 1, 2], [0, 1, 3]] [[0], [0, 1], [0, 1, 2], [0, 1, 3]] (by decide)
  exact h
theorem df3_call  (pure : Bool) (σ : St) (dst : Option Tmp) (K : St → Prop) : CallH Try.prog 39 [.l [.l [I .i64 0], .l [I .i64 0, I .i64 1], .l [I .i64 0, I .i64 1, I .i64 2], .l [I .i64 0, I .i64 1, I .i64 3]], .l [.l [I .i64 0], .l [I .i64 0, I .i64 1], .l [I .i64 0, I .i64 1, I .i64 2], .l [I .i64 0, I .i64 1, I .i64 3]]] pure σ dst (.mk : Hid K) = OrH ((pure || D.flat (Bo true)) = true ∧ evK (σ.put dst (.d (Bo true))) (.mk : Hid K)) (.mk : Hid (CallH Try.prog 39 [.l [.l [I .i64 0], .l [I .i64 0, I .i64 1], .l [I .i64 0, I .i64 1, I .i64 2], .l [I .i64 0, I .i64 1, I .i64 3]], .l [.l [I .i64 0], .l [I .i64 0, I .i64 1], .l [I .i64 0, I .i64 1, I .i64 2], .l [I .i64 0, I .i64 1, I .i64 3]]] pure σ dst (.mk : Hid K))) := CallH.eq0 (df3_spec ) pure σ dst K
theorem df3_callQ  (pure : Bool) (C : V → Prop) : CallQ Try.prog 39 [.l [.l [I .i64 0], .l [I .i64 0, I .i64 1], .l [I .i64 0, I .i64 1, I .i64 2], .l [I .i64 0, I .i64 1, I .i64 3]], .l [.l [I .i64 0], .l [I .i64 0, I .i64 1], .l [I .i64 0, I .i64 1, I .i64 2], .l [I .i64 0, I .i64 1, I .i64 3]]] pure (.mk : Hid C) = OrH ((pure || D.flat (Bo true)) = true ∧ evK (V.d (Bo true)) (.mk : Hid C)) (.mk : Hid (CallQ Try.prog 39 [.l [.l [I .i64 0], .l [I .i64 0, I .i64 1], .l [I .i64 0, I .i64 1, I .i64 2], .l [I .i64 0, I .i64 1, I .i64 3]], .l [.l [I .i64 0], .l [I .i64 0, I .i64 1], .l [I .i64 0, I .i64 1, I .i64 2], .l [I .i64 0, I .i64 1, I .i64 3]]] pure (.mk : Hid C))) := CallQ.eq0 (df3_spec ) pure C
theorem df4_spec  : FnD Try.prog 44 [.l [I .i64 (-1), I .i64 0, I .i64 1, I .i64 1], .l [I .i64 (-1), I .i64 0, I .i64 1, I .i64 1]] (Bo true) := by
  have h := ints_spec [-1, 0, 1, 1] [-1, 0, 1, 1] (by decide)
  exact h
theorem df4_call  (pure : Bool) (σ : St) (dst : Option Tmp) (K : St → Prop) : CallH Try.prog 44 [.l [I .i64 (-1), I .i64 0, I .i64 1, I .i64 1], .l [I .i64 (-1), I .i64 0, I .i64 1, I .i64 1]] pure σ dst (.mk : Hid K) = OrH ((pure || D.flat (Bo true)) = true ∧ evK (σ.put dst (.d (Bo true))) (.mk : Hid K)) (.mk : Hid (CallH Try.prog 44 [.l [I .i64 (-1), I .i64 0, I .i64 1, I .i64 1], .l [I .i64 (-1), I .i64 0, I .i64 1, I .i64 1]] pure σ dst (.mk : Hid K))) := CallH.eq0 (df4_spec ) pure σ dst K
theorem df4_callQ  (pure : Bool) (C : V → Prop) : CallQ Try.prog 44 [.l [I .i64 (-1), I .i64 0, I .i64 1, I .i64 1], .l [I .i64 (-1), I .i64 0, I .i64 1, I .i64 1]] pure (.mk : Hid C) = OrH ((pure || D.flat (Bo true)) = true ∧ evK (V.d (Bo true)) (.mk : Hid C)) (.mk : Hid (CallQ Try.prog 44 [.l [I .i64 (-1), I .i64 0, I .i64 1, I .i64 1], .l [I .i64 (-1), I .i64 0, I .i64 1, I .i64 1]] pure (.mk : Hid C))) := CallQ.eq0 (df4_spec ) pure C
theorem dfact_spec  : FnD Try.prog 52 [] (Bo true) := by
  refine FnD.go Try.func52 rfl rfl Try.results52 Try.ntmps52 ?_
  simp (implicitDefEqProofs := false) (dsimp := false) only [↓aw_seq, ↓aw_reg, ↓Qseq_n, ↓ops_nil, ↓ops_cons, ↓eval_tmp, ↓eval_int, ↓eval_bool, ↓eval_func, ↓put_some, ↓dK_d, ↓op_move, ↓op_assign, ↓op_build, ↓op_call, isD_d, ↓fnK_f, ↓call_H, ↓callK_H, ↓allT_nil, ↓allT_cons, ↓allD_nil, ↓allD_cons, ↓td_d, ↓cells_c, ↓cells_s, ↓one_i, ↓bs_, ↓op_bs, ↓bsL_f, ↓stored_mk, ↓sl_nil, ↓sl_cons, ↓sT_assign, ↓sT_build, ↓sT_bs, ↓vsz_agg, ↓inO_4, ↓fm_nil, ↓fm_cons, ↓sl22, ↓ty35, ↓zb35, ↓bd35, List.getD_cons_zero, List.getD_cons_succ, List.set_cons_zero, List.set_cons_succ, List.cons_append, List.nil_append, List.append_nil, List.map_cons, List.map_nil, List.length_cons, List.length_nil, List.all_cons, List.all_nil, Bool.true_and, Bool.and_self, Bool.or_false, Nat.reduceAdd, Nat.reduceSub, Nat.reduceMul, Nat.zero_add, List.replicate, evK_go, reduceIte, Nat.reduceEqDiff, Nat.reduceLT, and_self, true_and, Int.zero_add]
  simp (implicitDefEqProofs := false) (dsimp := false) only [df1_call, df2_call, df3_call, df4_call, eval_nilI, ↓er_eql, ↓cdK_true, ↓gdK_t, ↓gval_mk, ↓gvL_zero, ↓gvL_succ, ↓nthK_H, ↓nthH_zero, ↓nthH_succ, ↓aw_seq, ↓aw_ret, ↓aw_reg, ↓Qseq_n, ↓Qret_r, ↓ops_nil, ↓ops_cons, ↓ops_guard, ↓eval_tmp, ↓eval_int, ↓eval_func, ↓put_some, ↓bK_b, ↓dK_d, ↓tK_t, ↓op_move, ↓op_assign, ↓op_pick, ↓op_bin, ↓op_extract, ↓op_call, ↓orH_T, isD_d, ↓fnK_f, ↓call_H, ↓callK_H, ↓allT_nil, ↓allT_cons, ↓allD_nil, ↓allD_cons, ↓td_d, ↓ret_1, ↓st_tm, ↓cells_c, ↓cells_l, ↓one_i, ↓one_l, ↓bs_, ↓op_bs, ↓bsL_f, ↓stored_mk, ↓sl_nil, ↓sl_cons, ↓sT_move, ↓sT_assign, ↓sT_pick, ↓sT_bin, ↓sT_bs, ↓sT_call, ↓vsz_int, ↓vsz_slice, ↓inO_1, ↓inO_2, ↓inO_3, ↓inO_4, ↓fm_nil, ↓fm_cons, ↓ty3, ↓zb3, ↓ty28, ↓sl28, ↓zb28, ↓sl44, List.getD_cons_zero, List.getD_cons_succ, List.set_cons_zero, List.set_cons_succ, List.append_nil, List.map_cons, List.map_nil, List.length_cons, List.length_nil, List.all_cons, List.all_nil, Bool.and_true, Bool.true_and, Bool.and_self, Bool.true_or, Bool.or_false, Nat.reduceAdd, Nat.reduceSub, Nat.reduceMul, Nat.zero_add, evK_go, reduceIte, decide_true, Nat.reduceEqDiff, Nat.reduceLT, and_self, true_and, and_true, Int.zero_add]
  exact ⟨⟨rfl, by decide⟩, OrH.l (OrH.l (OrH.l (OrH.l ⟨by decide, by decide, by decide, by decide, by decide, OrH.l (OrH.l (by decide))⟩)))⟩
theorem dfact_call  (pure : Bool) (σ : St) (dst : Option Tmp) (K : St → Prop) : CallH Try.prog 52 [] pure σ dst (.mk : Hid K) = OrH ((pure || D.flat (Bo true)) = true ∧ evK (σ.put dst (.d (Bo true))) (.mk : Hid K)) (.mk : Hid (CallH Try.prog 52 [] pure σ dst (.mk : Hid K))) := CallH.eq0 (dfact_spec ) pure σ dst K
theorem dfact_callQ  (pure : Bool) (C : V → Prop) : CallQ Try.prog 52 [] pure (.mk : Hid C) = OrH ((pure || D.flat (Bo true)) = true ∧ evK (V.d (Bo true)) (.mk : Hid C)) (.mk : Hid (CallQ Try.prog 52 [] pure (.mk : Hid C))) := CallQ.eq0 (dfact_spec ) pure C
/-- What is known of those that stand over points. -/
structure DW (n : Int) (l : List (Int × Int)) (f : Int) (M : List (List Int)) (m x : Nat) : Prop where
  n0 : n = (m : Int)
  lo : 1 ≤ m
  hi : m ≤ 8
  f0 : f = (x : Int)
  fm : x < m
  len : M.length = m
  sz : ∀ i : Nat, (M.getD i default).length ≤ 64
  pt : ∀ (a : Nat) (b : Int), b ∈ M.getD a default → ∃ c : Nat, b = (c : Int) ∧ c < m
  iff : ∀ (a b : Nat), (b : Int) ∈ M.getD a default ↔ Ov (natL l) x a b
theorem domW {n : Int} {l : List (Int × Int)} {f : Int} (h : domE n l f = 0) : chk n l = 0 ∧ DW n l f (domOf n l f) n.toNat f.toNat := by
  have hc : chk n l = 0 := by
    unfold domE at h
    split at h
    · assumption
    · assumption
  have hf : inB f 0 (n - 1) = true := by
    unfold domE at h
    rw [if_pos hc] at h
    split at h
    · assumption
    · cases h
  have ok := chk_ok hc
  rw [inB_iff] at hf
  have h8 := ok.hi
  have hlo := ok.lo
  have n0 := ok.n0
  have e : domOf n l f = (ovL n.toNat (natL l) f.toNat).map ptsI := if_pos h
  refine ⟨hc, n0, hlo, h8, by omega, by omega, by rw [e, List.length_map]; exact ovL_len _ _ _, fun i => by rw [e, mapP_get]; exact ptsI_len _, fun a b hb => ?_, fun a b => ?_⟩
  · rw [e, mapP_get] at hb
    obtain ⟨c, hc1, rfl⟩ := List.mem_map.1 hb
    exact ⟨c, rfl, ((ovL_pts (by omega) ok.good (by omega) a c).1 hc1).1⟩
  · rw [e, mapP_get, ptsI_mem, ← pts_mem]
    exact ovL_mem (by omega) ok.good (by omega) a b
end Go.Proofs

namespace Go.Proofs
open Go.Aw
set_option linter.unusedSimpArgs false
set_option maxRecDepth 10000
def hfL : List (Int × Int) := [(0, 1), (1, 2)]
theorem hf1_spec  : FnD Try.prog 58 [I .i64 3, .l [.s [I .i64 0, I .i64 1], .s [I .i64 1, I .i64 2]]] (.t [.l [I .i64 0, I .i64 1, I .i64 0], erD 0]) := by
  have h := hpart_spec 3 hfL (by decide)
  rw [show halfR 3 hfL = [0, 1, 0] by decide +kernel, show halfE 3 hfL = 0 by decide +kernel] at h
  exact h
theorem hf1_call  (pure : Bool) (σ : St) (dst : Option Tmp) (K : St → Prop) : CallH Try.prog 58 [I .i64 3, .l [.s [I .i64 0, I .i64 1], .s [I .i64 1, I .i64 2]]] pure σ dst (.mk : Hid K) = OrH ((pure || D.flat (.t [.l [I .i64 0, I .i64 1, I .i64 0], erD 0])) = true ∧ evK (σ.put dst (.d (.t [.l [I .i64 0, I .i64 1, I .i64 0], erD 0]))) (.mk : Hid K)) (.mk : Hid (CallH Try.prog 58 [I .i64 3, .l [.s [I .i64 0, I .i64 1], .s [I .i64 1, I .i64 2]]] pure σ dst (.mk : Hid K))) := CallH.eq0 (hf1_spec ) pure σ dst K
theorem hf1_callQ  (pure : Bool) (C : V → Prop) : CallQ Try.prog 58 [I .i64 3, .l [.s [I .i64 0, I .i64 1], .s [I .i64 1, I .i64 2]]] pure (.mk : Hid C) = OrH ((pure || D.flat (.t [.l [I .i64 0, I .i64 1, I .i64 0], erD 0])) = true ∧ evK (V.d (.t [.l [I .i64 0, I .i64 1, I .i64 0], erD 0])) (.mk : Hid C)) (.mk : Hid (CallQ Try.prog 58 [I .i64 3, .l [.s [I .i64 0, I .i64 1], .s [I .i64 1, I .i64 2]]] pure (.mk : Hid C))) := CallQ.eq0 (hf1_spec ) pure C
def hfM : List (Int × Int) := [(0, 1), (1, 2), (2, 0)]
theorem hf2_spec  : FnD Try.prog 93 [I .i64 3, .l [.s [I .i64 0, I .i64 1], .s [I .i64 1, I .i64 2], .s [I .i64 2, I .i64 0]]] (.t [I .i64 3, erD 0]) := by
  have h := hodd_spec 3 hfM (by decide)
  rw [show oddR 3 hfM = 3 by decide +kernel, show chk 3 hfM = 0 by decide +kernel] at h
  exact h
theorem hf2_call  (pure : Bool) (σ : St) (dst : Option Tmp) (K : St → Prop) : CallH Try.prog 93 [I .i64 3, .l [.s [I .i64 0, I .i64 1], .s [I .i64 1, I .i64 2], .s [I .i64 2, I .i64 0]]] pure σ dst (.mk : Hid K) = OrH ((pure || D.flat (.t [I .i64 3, erD 0])) = true ∧ evK (σ.put dst (.d (.t [I .i64 3, erD 0]))) (.mk : Hid K)) (.mk : Hid (CallH Try.prog 93 [I .i64 3, .l [.s [I .i64 0, I .i64 1], .s [I .i64 1, I .i64 2], .s [I .i64 2, I .i64 0]]] pure σ dst (.mk : Hid K))) := CallH.eq0 (hf2_spec ) pure σ dst K
theorem hf2_callQ  (pure : Bool) (C : V → Prop) : CallQ Try.prog 93 [I .i64 3, .l [.s [I .i64 0, I .i64 1], .s [I .i64 1, I .i64 2], .s [I .i64 2, I .i64 0]]] pure (.mk : Hid C) = OrH ((pure || D.flat (.t [I .i64 3, erD 0])) = true ∧ evK (V.d (.t [I .i64 3, erD 0])) (.mk : Hid C)) (.mk : Hid (CallQ Try.prog 93 [I .i64 3, .l [.s [I .i64 0, I .i64 1], .s [I .i64 1, I .i64 2], .s [I .i64 2, I .i64 0]]] pure (.mk : Hid C))) := CallQ.eq0 (hf2_spec ) pure C
theorem hf3_spec  : FnD Try.prog 44 [.l [I .i64 0, I .i64 1, I .i64 0], .l [I .i64 0, I .i64 1, I .i64 0]] (Bo true) := by
  have h := ints_spec [0, 1, 0] [0, 1, 0] (by decide)
  exact h
theorem hf3_call  (pure : Bool) (σ : St) (dst : Option Tmp) (K : St → Prop) : CallH Try.prog 44 [.l [I .i64 0, I .i64 1, I .i64 0], .l [I .i64 0, I .i64 1, I .i64 0]] pure σ dst (.mk : Hid K) = OrH ((pure || D.flat (Bo true)) = true ∧ evK (σ.put dst (.d (Bo true))) (.mk : Hid K)) (.mk : Hid (CallH Try.prog 44 [.l [I .i64 0, I .i64 1, I .i64 0], .l [I .i64 0, I .i64 1, I .i64 0]] pure σ dst (.mk : Hid K))) := CallH.eq0 (hf3_spec ) pure σ dst K
theorem hf3_callQ  (pure : Bool) (C : V → Prop) : CallQ Try.prog 44 [.l [I .i64 0, I .i64 1, I .i64 0], .l [I .i64 0, I .i64 1, I .i64 0]] pure (.mk : Hid C) = OrH ((pure || D.flat (Bo true)) = true ∧ evK (V.d (Bo true)) (.mk : Hid C)) (.mk : Hid (CallQ Try.prog 44 [.l [I .i64 0, I .i64 1, I .i64 0], .l [I .i64 0, I .i64 1, I .i64 0]] pure (.mk : Hid C))) := CallQ.eq0 (hf3_spec ) pure C
theorem hfact_spec  : FnD Try.prog 57 [] (Bo true) := by
  refine FnD.go Try.func57 rfl rfl Try.results57 Try.ntmps57 ?_
  simp (implicitDefEqProofs := false) (dsimp := false) only [↓aw_seq, ↓aw_reg, ↓Qseq_n, ↓ops_nil, ↓ops_cons, ↓eval_tmp, ↓eval_int, ↓eval_bool, ↓eval_func, ↓put_some, ↓dK_d, ↓op_assign, ↓op_build, ↓op_call, isD_d, ↓fnK_f, ↓call_H, ↓callK_H, ↓allT_nil, ↓allT_cons, ↓allD_nil, ↓allD_cons, ↓td_d, ↓cells_c, ↓cells_s, ↓one_i, ↓bs_, ↓op_bs, ↓bsL_f, ↓stored_mk, ↓sl_nil, ↓sl_cons, ↓sT_move, ↓sT_assign, ↓sT_extract, ↓sT_build, ↓sT_bs, ↓sT_call, ↓vsz_agg, ↓inO_2, ↓fm_nil, ↓fm_cons, ↓sl22, ↓ty35, ↓zb35, ↓bd35, List.getD_cons_zero, List.getD_cons_succ, List.set_cons_zero, List.set_cons_succ, List.cons_append, List.nil_append, List.append_nil, List.map_cons, List.map_nil, List.length_cons, List.length_nil, List.all_cons, List.all_nil, Bool.true_and, Bool.and_self, Bool.or_false, Nat.reduceAdd, Nat.reduceSub, Nat.reduceMul, Nat.zero_add, List.replicate, evK_go, reduceIte, Nat.reduceEqDiff, Nat.reduceLT, and_self, true_and, Int.zero_add]
  simp (implicitDefEqProofs := false) (dsimp := false) only [hf1_call, hf2_call, hf3_call, eval_nilI, ↓er_eql, ↓cdK_true, ↓gdK_t, ↓gval_mk, ↓gvL_zero, ↓gvL_succ, ↓nthK_H, ↓nthH_zero, ↓nthH_succ, ↓aw_seq, ↓aw_ret, ↓aw_reg, ↓Qseq_n, ↓Qret_r, ↓ops_nil, ↓ops_cons, ↓ops_guard, ↓eval_tmp, ↓eval_int, ↓eval_func, ↓put_some, ↓bK_b, ↓dK_d, ↓tK_t, ↓binE_i, ↓bi_eql, ↓op_move, ↓op_assign, ↓op_pick, ↓op_bin, ↓op_extract, ↓op_build, ↓op_call, ↓orH_T, isD_d, ↓fnK_f, ↓call_H, ↓callK_H, ↓allT_nil, ↓allT_cons, ↓allD_nil, ↓allD_cons, ↓td_d, ↓ret_1, ↓st_tm, ↓cells_c, ↓cells_s, ↓one_i, ↓bs_, ↓op_bs, ↓bsL_f, ↓stored_mk, ↓sl_nil, ↓sl_cons, ↓sT_move, ↓sT_assign, ↓sT_pick, ↓sT_bin, ↓sT_extract, ↓sT_build, ↓sT_bs, ↓sT_call, ↓vsz_int, ↓vsz_agg, ↓inO_3, ↓fm_nil, ↓fm_cons, ↓ty3, ↓zb3, ↓sl22, ↓sl28, ↓ty35, ↓zb35, ↓bd35, List.getD_cons_zero, List.getD_cons_succ, List.set_cons_zero, List.set_cons_succ, List.cons_append, List.nil_append, List.append_nil, List.map_cons, List.map_nil, List.length_cons, List.length_nil, List.all_cons, List.all_nil, Bool.and_true, Bool.true_and, Bool.and_self, Bool.true_or, Bool.or_false, Nat.reduceAdd, Nat.reduceSub, Nat.reduceMul, Nat.zero_add, evK_go, reduceIte, decide_true, Nat.reduceEqDiff, Nat.reduceLT, and_self, true_and, and_true, Int.zero_add]
  refine ⟨⟨rfl, by decide⟩, ?_⟩
  (repeat refine OrH.l ?_)
  refine ⟨⟨rfl, by decide⟩, ?_⟩
  (repeat refine OrH.l ?_)
  decide
theorem hfact_call  (pure : Bool) (σ : St) (dst : Option Tmp) (K : St → Prop) : CallH Try.prog 57 [] pure σ dst (.mk : Hid K) = OrH ((pure || D.flat (Bo true)) = true ∧ evK (σ.put dst (.d (Bo true))) (.mk : Hid K)) (.mk : Hid (CallH Try.prog 57 [] pure σ dst (.mk : Hid K))) := CallH.eq0 (hfact_spec ) pure σ dst K
theorem hfact_callQ  (pure : Bool) (C : V → Prop) : CallQ Try.prog 57 [] pure (.mk : Hid C) = OrH ((pure || D.flat (Bo true)) = true ∧ evK (V.d (Bo true)) (.mk : Hid C)) (.mk : Hid (CallQ Try.prog 57 [] pure (.mk : Hid C))) := CallQ.eq0 (hfact_spec ) pure C
theorem halfE_zero {n : Int} {l : List (Int × Int)} (h : halfE n l = 0) : chk n l = 0 ∧ halfOk n.toNat (natL l) = true := by
  have hc : chk n l = 0 := by
    unfold halfE at h
    split at h
    · assumption
    · assumption
  unfold halfE at h
  rw [if_pos hc] at h
  split at h
  · exact ⟨hc, by assumption⟩
  · cases h
theorem halfE_of {n : Int} {l : List (Int × Int)} (hc : chk n l = 0) (hk : halfOk n.toNat (natL l) = true) : halfE n l = 0 := by
  unfold halfE; rw [if_pos hc, if_pos hk]
theorem halfR_none {n : Int} {l : List (Int × Int)} (h : halfE n l ≠ 0) : halfR n l = [] := by
  unfold halfR
  by_cases hc : chk n l = 0
  · rw [if_pos hc]
    by_cases hk : halfOk n.toNat (natL l) = true
    · exact absurd (halfE_of hc hk) h
    · rw [if_neg hk]
  · rw [if_neg hc]
theorem halfR_some {n : Int} {l : List (Int × Int)} (h : halfE n l = 0) : halfR n l = halfL n.toNat (natL l) := by
  obtain ⟨hc, hk⟩ := halfE_zero h
  unfold halfR; rw [if_pos hc, if_pos hk]
theorem halfR_len {n : Int} {l : List (Int × Int)} (h : halfE n l = 0) : (halfR n l).length = n.toNat := by
  rw [halfR_some h]; simp [halfL]
theorem half_but {n : Int} {l : List (Int × Int)} (h : halfE n l = 0) (k : Int) : halfE n (butL l k) = 0 := by
  obtain ⟨hc, hk⟩ := halfE_zero h
  have ok := chk_ok hc
  refine halfE_of (chk_sub hc ?_ fun p hp => but_mem hp) (half_less ok.cr.1 ok.good hk fun p hp => ?_)
  · have : (butL l k).length ≤ l.length := butK_len l k _; have := ok.len; omega
  · obtain ⟨q, hq, rfl⟩ := List.mem_map.1 hp
    exact List.mem_map.2 ⟨q, but_mem hq, rfl⟩
theorem half_and {n : Int} {l : List (Int × Int)} (h : halfE n l = 0) {p : Int × Int} (hl : l.length ≠ 24) (h1 : 0 ≤ p.1 ∧ p.1 < n) (h2 : 0 ≤ p.2 ∧ p.2 < n) (hd : (halfR n l).getD p.1.toNat default ≠ (halfR n l).getD p.2.toNat default) : halfE n (l ++ [p]) = 0 := by
  rw [halfR_some h] at hd
  obtain ⟨hc, hk⟩ := halfE_zero h
  have ok := chk_ok hc
  have e0 := ok.n0
  have hll := ok.len
  have hne : p.1 ≠ p.2 := fun e => hd (by rw [e])
  have hn : natL (l ++ [p]) = natL l ++ [(p.1.toNat, p.2.toNat)] := by unfold natL; rw [List.map_append]; rfl
  refine halfE_of ?_ ?_
  · rw [chk_iff] at hc ⊢
    refine ⟨hc.1, by simp; omega, fun q hq => ?_⟩
    rcases List.mem_append.1 hq with hq | hq
    · exact hc.2.2 q hq
    · rw [List.mem_singleton.1 hq]
      unfold lineErr
      rw [if_neg, if_neg hne]
      rw [inW_iff.2 ⟨h1.1, by omega⟩, inW_iff.2 ⟨h2.1, by omega⟩]; decide
  · rw [hn]
    exact half_more ok.cr.1 ok.good hk (by omega) (by omega) hd
theorem lHalvesLess_spec (n : Int) (l : List (Int × Int)) (k : Int) (p : Int × Int) (_hn : -9223372036854775808 ≤ n ∧ n ≤ 9223372036854775807) (hpre : l.length < 2 ^ 43) (_hk : -9223372036854775808 ≤ k ∧ k ≤ 9223372036854775807) :
    FnD Try.prog 20 [I .i64 n, .l (l.map lnD), I .i64 k, lnD p] (Bo true) := by
  have hl62 : l.length < 2 ^ 62 := by omega
  have e0 : lnD p = .s [I .i64 p.1, I .i64 p.2] := rfl
  rw [e0]
  refine FnD.go Try.func20 rfl rfl Try.results20 Try.ntmps20 ?_
  simp (implicitDefEqProofs := false) (dsimp := false) only [↓aw_seq, ↓aw_reg, ↓Qseq_n, ↓ops_nil, ↓ops_cons, ↓eval_tmp, ↓eval_bool, ↓eval_func, ↓put_some, ↓op_assign, ↓op_call, ↓op_box, isD_d, ↓fnK_f, ↓call_H, ↓callK_H, ↓allT_nil, ↓td_d, ↓addBox_mk, ↓st_bx, ↓vcells_s, ↓one_i, ↓vone_d, List.getD_cons_zero, List.getD_cons_succ, List.set_cons_zero, List.set_cons_succ, List.cons_append, List.nil_append, List.append_nil, List.map_cons, List.map_nil, List.length_cons, List.length_nil, List.all_cons, List.all_nil, Bool.true_and, Bool.and_self, Nat.reduceAdd, Nat.reduceSub, Nat.reduceMul, Nat.zero_add, List.replicate, evK_go, reduceIte, Nat.reduceEqDiff, Nat.reduceLT, and_self, true_and, Int.zero_add]
  simp (implicitDefEqProofs := false) (dsimp := false) only [hfact_call, hpart_call, hl62, eval_nilI, ↓er_neq, ↓cdK_false, ↓cdK_not, ↓nthK_H, ↓nthH_zero, ↓nthH_succ, ↓aw_cond, ↓aw_seq, ↓aw_skip, ↓aw_reg, ↓Qseq_n, ↓ops_nil, ↓ops_cons, ↓eval_tmp, ↓eval_func, ↓put_some, ↓bK_b, ↓tK_t, ↓op_move, ↓op_assign, ↓op_bin, ↓op_not, ↓op_extract, ↓op_call, isD_d, ↓fnK_f, ↓call_H, ↓callK_H, ↓allT_nil, ↓allT_cons, ↓td_d, List.getD_cons_zero, List.getD_cons_succ, List.set_cons_zero, List.set_cons_succ, List.append_nil, List.all_cons, List.all_nil, Bool.true_and, Bool.and_self, Bool.true_or, Nat.reduceAdd, Nat.reduceSub, Nat.reduceMul, evK_go, reduceIte, Bool.not_true, Nat.reduceEqDiff, Nat.reduceLT, and_self, true_and]
  (repeat refine OrH.l ?_)
  refine cdK_dec (fun hc => ?_) (fun hc => ?_)
  rotate_left
  · simp (implicitDefEqProofs := false) (dsimp := false) only [halfR_none hc, ↓aw_seq, ↓aw_ret, ↓aw_reg, ↓Qseq_n, ↓Qseq_r, ↓Qret_r, ↓ops_nil, ↓ops_cons, ↓eval_tmp, ↓eval_int, ↓put_some, ↓lenK_l, ↓binE_i, ↓bi_eql, ↓op_move, ↓op_assign, ↓op_bin, ↓op_len, ↓td_d, ↓ret_1, ↓sl28, List.getD_cons_zero, List.getD_cons_succ, List.set_cons_zero, List.set_cons_succ, List.map_nil, List.length_nil, Nat.reduceAdd, Nat.reduceSub, Nat.reduceMul, evK_go, reduceIte, decide_true, Nat.reduceEqDiff, Nat.reduceLT, Int.cast_ofNat_Int]
  have hlen := halfR_len hc
  have hbut := half_but hc k
  obtain ⟨hck, hok⟩ := halfE_zero hc
  have ok := chk_ok hck
  have en := ok.n0
  have h8 := ok.hi
  have hmore := fun h1 h2 h3 h4 => half_and hc (p := p) h1 h2 h3 h4
  have hnn : decide ((n.toNat : Int) = n) = true := decide_eq_true en.symm
  have hb62 : (butL l k).length < 2 ^ 62 := Nat.lt_of_le_of_lt (butK_len l k _) hl62
  simp (implicitDefEqProofs := false) (dsimp := false) only [hc, in2_call, ↓aw_cond, ↓aw_seq, ↓aw_skip, ↓aw_reg, ↓Qseq_n, ↓ops_nil, ↓ops_cons, ↓eval_tmp, ↓eval_int, ↓eval_func, ↓put_some, ↓bK_b, ↓lenK_l, ↓binE_i, ↓bi_sub, ↓in_i64, ↓op_move, ↓op_bin, ↓op_len, ↓op_call, isD_d, ↓fnK_f, ↓call_H, ↓callK_H, ↓allT_nil, ↓allT_cons, ↓td_d, ↓sl22, List.getD_cons_zero, List.getD_cons_succ, List.set_cons_zero, List.set_cons_succ, List.append_nil, List.length_map, List.all_cons, List.all_nil, Bool.true_and, Bool.and_self, Bool.true_or, Nat.reduceAdd, Nat.reduceSub, Nat.reduceMul, evK_go, reduceIte, decide_true, Bool.not_true, Nat.reduceEqDiff, Nat.reduceLT, and_self, true_and]
  refine ⟨by omega, ?_⟩
  (repeat refine OrH.l ?_)
  refine cdK_split (fun hb => ?_) (fun hb => ?_)
  all_goals simp (implicitDefEqProofs := false) (dsimp := false) only [but_callD, hpre, hpart_call, hb62, hbut, eval_nilI, ↓er_neq, ↓cdK_false, ↓gdK_f, ↓gval_mk, ↓gvL_zero, ↓gvL_succ, ↓nthK_H, ↓nthH_zero, ↓nthH_succ, ↓aw_cond, ↓aw_seq, ↓aw_skip, ↓aw_reg, ↓Qseq_n, ↓ops_nil, ↓ops_cons, ↓ops_guard, ↓eval_tmp, ↓eval_int, ↓eval_func, ↓put_some, ↓bK_b, ↓lenK_l, ↓tK_t, ↓binE_i, ↓bi_eql, ↓op_move, ↓op_assign, ↓op_bin, ↓op_extract, ↓op_len, ↓op_call, isD_d, ↓fnK_f, ↓call_H, ↓callK_H, ↓allT_nil, ↓allT_cons, ↓td_d, ↓st_tm, ↓sl22, List.getD_cons_zero, List.getD_cons_succ, List.set_cons_zero, List.set_cons_succ, List.append_nil, List.length_map, List.all_cons, List.all_nil, Bool.true_and, Bool.and_self, Bool.true_or, Nat.reduceAdd, Nat.reduceSub, Nat.reduceMul, evK_go, reduceIte, decide_true, Bool.not_true, Nat.reduceEqDiff, Nat.reduceLT, and_self, true_and]
  all_goals (repeat refine OrH.l ?_)
  all_goals
    refine cdK_dec (fun h24 => ?_) (fun h24 => ?_)
    · simp (implicitDefEqProofs := false) (dsimp := false) only [decide_eq_true h24, hlen, hnn, ↓cdK_true, ↓gdK_f, ↓gval_mk, ↓gvL_zero, ↓gvL_succ, ↓aw_cond, ↓aw_seq, ↓aw_ret, ↓aw_reg, ↓Qseq_n, ↓Qseq_r, ↓Qret_r, ↓ops_nil, ↓ops_cons, ↓ops_guard, ↓eval_tmp, ↓eval_bool, ↓put_some, ↓bK_b, ↓lenK_l, ↓binE_i, ↓bi_eql, ↓op_move, ↓op_assign, ↓op_pick, ↓op_bin, ↓op_len, ↓td_d, ↓ret_1, ↓st_tm, ↓sl28, List.getD_cons_zero, List.getD_cons_succ, List.set_cons_zero, List.set_cons_succ, List.length_map, Nat.reduceAdd, Nat.reduceSub, Nat.reduceMul, evK_go, reduceIte, Nat.reduceEqDiff, Nat.reduceLT]
    have hd := decide_eq_false h24
    cases hA : inB p.1 0 (n - 1) with
    | false =>
      simp (implicitDefEqProofs := false) (dsimp := false) only [hd, in2_call, hA, hlen, hnn, ↓cdK_true, ↓cdK_false, ↓gdK_f, ↓gval_mk, ↓gvL_zero, ↓gvL_succ, ↓nthK_H, ↓nthH_zero, ↓aw_cond, ↓aw_seq, ↓aw_ret, ↓aw_reg, ↓Qseq_n, ↓Qseq_r, ↓Qret_r, ↓ops_nil, ↓ops_cons, ↓ops_guard, ↓eval_tmp, ↓eval_int, ↓eval_bool, ↓eval_func, ↓put_some, ↓bK_b, ↓lenK_l, ↓binE_i, ↓bi_sub, ↓bi_eql, ↓in_i64, ↓ldK_p, ↓faK_p, ↓op_move, ↓op_assign, ↓op_pick, ↓op_load, ↓op_bin, ↓op_not, ↓op_fa, ↓op_len, ↓op_call, ↓orH_T, isD_d, ↓fnK_f, ↓call_H, ↓callK_H, ↓allT_nil, ↓allT_cons, ↓td_d, ↓ret_1, ↓st_tm, ↓vcells_s, ↓ty3, ↓sl28, ↓fd35_0, List.getD_cons_zero, List.getD_cons_succ, List.set_cons_zero, List.set_cons_succ, List.append_nil, List.map_cons, List.map_nil, List.length_map, List.all_cons, List.all_nil, Bool.and_true, Bool.true_and, Bool.and_self, Bool.true_or, Nat.reduceAdd, Nat.reduceSub, Nat.reduceMul, Nat.add_zero, evK_go, reduceIte, Bool.not_false, Nat.reduceEqDiff, Nat.reduceLT, and_self, true_and, and_true]
      (repeat refine OrH.l ?_)
      omega
    | true =>
      cases hB : inB p.2 0 (n - 1) with
      | false =>
        simp (implicitDefEqProofs := false) (dsimp := false) only [hd, in2_call, hA, hB, hlen, hnn, ↓cdK_true, ↓cdK_false, ↓gdK_f, ↓gval_mk, ↓gvL_zero, ↓gvL_succ, ↓nthK_H, ↓nthH_zero, ↓nthH_succ, ↓aw_cond, ↓aw_seq, ↓aw_ret, ↓aw_reg, ↓Qseq_n, ↓Qseq_r, ↓Qret_r, ↓ops_nil, ↓ops_cons, ↓ops_guard, ↓eval_tmp, ↓eval_int, ↓eval_bool, ↓eval_func, ↓put_some, ↓bK_b, ↓lenK_l, ↓binE_i, ↓bi_sub, ↓bi_eql, ↓in_i64, ↓ldK_p, ↓faK_p, ↓op_move, ↓op_assign, ↓op_pick, ↓op_load, ↓op_bin, ↓op_not, ↓op_fa, ↓op_len, ↓op_call, ↓orH_T, isD_d, ↓fnK_f, ↓call_H, ↓callK_H, ↓allT_nil, ↓allT_cons, ↓td_d, ↓ret_1, ↓st_tm, ↓vcells_s, ↓ty3, ↓sl28, ↓fd35_0, ↓fd35_1, List.getD_cons_zero, List.getD_cons_succ, List.set_cons_zero, List.set_cons_succ, List.append_nil, List.map_cons, List.map_nil, List.length_map, List.all_cons, List.all_nil, Bool.and_true, Bool.true_and, Bool.and_self, Bool.true_or, Nat.reduceAdd, Nat.reduceSub, Nat.reduceMul, Nat.zero_add, Nat.add_zero, evK_go, reduceIte, Bool.not_true, Bool.not_false, Nat.reduceEqDiff, Nat.reduceLT, and_self, true_and, and_true, Int.zero_add]
        refine ⟨by omega, ?_⟩
        (repeat refine OrH.l ?_)
        omega
      | true =>
        obtain ⟨ha1, ha2⟩ := inW_iff.1 hA
        obtain ⟨hb1, hb2⟩ := inW_iff.1 hB
        simp (implicitDefEqProofs := false) (dsimp := false) only [hd, in2_call, hA, hB, hlen, hnn, ↓cdK_false, ↓gdK_f, ↓gval_mk, ↓gvL_zero, ↓gvL_succ, ↓atK_H, ↓atH_map, ↓nthK_H, ↓nthH_zero, ↓nthH_succ, ↓aw_cond, ↓aw_seq, ↓aw_skip, ↓aw_draw, ↓Qseq_n, ↓ops_nil, ↓ops_cons, ↓ops_guard, ↓eval_tmp, ↓eval_int, ↓eval_func, ↓put_some, ↓bK_b, ↓iK_i, ↓lenK_l, ↓ev_move, ↓ev_load, ↓ev_bin, ↓ev_fa, ↓ev_ia, ↓binE_i, ↓bi_sub, ↓bi_eql, ↓bi_neq, ↓in_i64, ↓ldK_q, ↓ldK_p, ↓faK_p, ↓iaK_l, ↓op_move, ↓op_pick, ↓op_load, ↓op_bin, ↓op_not, ↓op_fa, ↓op_len, ↓op_call, isD_d, ↓fnK_f, ↓call_H, ↓callK_H, ↓allT_nil, ↓allT_cons, ↓td_d, ↓draw_H, ↓h_nil, ↓h_cons, ↓ldH_n, ↓q_move, ↓q_load, ↓q_bin, ↓q_fa, ↓q_ia, ↓il_move, ↓il_load, ↓il_bin, ↓il_fa, ↓il_ia, ↓st_tm, ↓cells_c, ↓vcells_s, ↓hd_cons, ↓ty3, ↓sl28, ↓fd35_0, ↓fd35_1, List.getD_cons_zero, List.getD_cons_succ, List.set_cons_zero, List.set_cons_succ, List.append_nil, List.map_cons, List.map_nil, List.length_cons, List.length_nil, List.length_map, List.all_cons, List.all_nil, Bool.true_and, Bool.and_self, Bool.true_or, Nat.reduceAdd, Nat.reduceSub, Nat.reduceMul, Nat.zero_add, Nat.add_zero, evK_go, reduceIte, Bool.not_true, Nat.reduceEqDiff, Nat.reduceLT, and_self, true_and, Int.zero_add]
        refine ⟨by omega, ?_⟩
        (repeat refine OrH.l ?_)
        refine ⟨by omega, ?_⟩
        (repeat refine OrH.l ?_)
        refine ⟨DrawH.of follows_mixed (by kernel_rfl), by omega, by omega, by omega, by omega, cdK_dec (fun h5 => ?_) (fun h5 => ?_)⟩
        · simp (implicitDefEqProofs := false) (dsimp := false) only [↓aw_seq, ↓aw_ret, ↓aw_reg, ↓Qseq_n, ↓Qseq_r, ↓Qret_r, ↓ops_nil, ↓ops_cons, ↓eval_tmp, ↓eval_bool, ↓put_some, ↓op_assign, ↓td_d, ↓ret_1, List.getD_cons_zero, List.getD_cons_succ, List.set_cons_zero, List.set_cons_succ, Nat.reduceAdd, Nat.reduceSub, Nat.reduceMul, evK_go, reduceIte, Nat.reduceEqDiff, Nat.reduceLT]
        · have hm := hmore (fun e => h24 (by omega)) ⟨ha1, by omega⟩ ⟨hb1, by omega⟩ h5
          simp (implicitDefEqProofs := false) (dsimp := false) only [↓optK_some, ↓rwK_mk_, ↓aw_seq, ↓aw_skip, ↓aw_reg, ↓Qseq_n, ↓ops_nil, ↓ops_cons, ↓eval_tmp, ↓eval_nil, ↓eval_func, ↓put_some, ↓dK_d, ↓sboxK_s, ↓ldK_p, ↓op_move, ↓op_assign, ↓op_load, ↓op_append, ↓op_call, isD_d, isD_o, ↓fnK_f, ↓call_H, ↓callK_H, ↓allT_nil, ↓allT_cons, ↓allD_nil, ↓allD_cons, ↓td_d, ↓td_o, ↓addRow_mk, ↓app_mk, ↓st_rw, ↓row_sz, ↓row_xs, kill_d, kill_j, kill_nl, kill_p, kill_o, ↓cells_s, ↓one_i, ↓ap_, ↓ap_nl, ↓ap_o, ↓src_l, ↓bs_, ↓op_bs, ↓bsL_f, ↓stored_mk, ↓sl_nil, ↓sl_cons, ↓sT_move, ↓sT_assign, ↓sT_load, ↓sT_bs, ↓sT_call, ↓vsz_agg, ↓inO_1, ↓fm_nil, ↓fm_cons, ↓sl22, ↓ty35, ↓zb35, List.getD_cons_zero, List.getD_cons_succ, List.set_cons_zero, List.set_cons_succ, List.nil_append, List.append_nil, List.map_cons, List.map_nil, List.length_cons, List.length_nil, List.length_map, List.all_cons, List.all_nil, Bool.and_true, Bool.true_and, Bool.and_self, Bool.and_false, Bool.or_false, Nat.reduceAdd, Nat.reduceSub, Nat.reduceMul, Nat.zero_add, evK_go, reduceIte, Nat.reduceEqDiff, Nat.reduceLT, and_self, true_and, and_true, Int.zero_add, List.drop_zero]
          refine ⟨rfl, fun y hy => ?_, ⟨by omega, by omega⟩, ⟨rfl, by decide⟩, rfl, ⟨fun _ => trivial, by omega, by omega⟩, OrH.r (Loud.frz { tm := slots 99 [(92, .d (I .i64 n)), (93, .d (.l ((l ++ [p]).map lnD)))], bx := [], rw := [] } (Wkn.of [] [] ?_) ?_)⟩
          · obtain ⟨q, _, rfl⟩ := List.mem_map.1 hy
            exact ⟨rfl, rfl⟩
          · have e1 : List.take (l.length + 1) (l.map lnD ++ [D.s [I .i64 p.1, I .i64 p.2]]) = (l ++ [p]).map lnD := by
              rw [List.map_append]
              exact List.take_of_length_le (by simp)
            simp (implicitDefEqProofs := false) (dsimp := false) only [e1, ↓optK_some, ↓row_xs, List.getD_cons_zero, List.set_cons_zero, List.set_cons_succ, Bool.and_self, Nat.reduceAdd, Nat.reduceSub, Nat.reduceMul, List.replicate, evK_go, reduceIte, Nat.reduceEqDiff, Nat.reduceLT, and_self, not_false_eq_true, List.drop_zero, List.foldl_cons, List.foldl_nil, slots, wkL_nil, wkL_cons, wkB_nil, wkR_nil, wkV_j, wkV_d, frz_d, frz_o, dl_eq, reduceCtorEq, List.not_mem_nil]
          · have hm62 : (l ++ [p]).length < 2 ^ 62 := by simp; omega
            simp (implicitDefEqProofs := false) (dsimp := false) only [slots, hpart_call, hm62, hm, eval_nilI, ↓er_eql, ↓nthK_H, ↓nthH_zero, ↓nthH_succ, ↓aw_seq, ↓aw_ret, ↓aw_reg, ↓Qseq_n, ↓Qret_r, ↓ops_nil, ↓ops_cons, ↓eval_tmp, ↓eval_func, ↓put_some, ↓tK_t, ↓op_move, ↓op_assign, ↓op_bin, ↓op_extract, ↓orH_T, isD_d, ↓fnK_f, ↓call_H, ↓callK_H, ↓allT_nil, ↓allT_cons, ↓td_d, ↓ret_1, List.getD_cons_zero, List.getD_cons_succ, List.set_cons_zero, List.set_cons_succ, List.append_nil, List.all_cons, List.all_nil, Bool.and_self, Bool.true_or, Nat.reduceAdd, Nat.reduceSub, Nat.reduceMul, List.replicate, evK_go, reduceIte, decide_true, Nat.reduceEqDiff, Nat.reduceLT, and_self, List.foldl_cons, List.foldl_nil]
end Go.Proofs

namespace Go.Proofs
set_option maxRecDepth 100000
theorem cutNo : ("cut".toList == "gc".toList || "cut".toList == "spec".toList) = false := by kernel_rfl
theorem cutNo2 : ("cut".toList == "carried".toList) = false := by kernel_rfl
theorem cutStrip (T : List (List Char)) : stripLifts liftWords ("cut".toList :: T) = ([], "cut".toList :: T) := by kernel_rfl
theorem make_of {P : Program} {T : List (List Char)} (h : behindMainWord (wordsSigns P.initOrder.toList) = "cut".toList :: T) : P.make = some .cut := by
  unfold Program.make
  rw [h]
  simp (implicitDefEqProofs := false) (dsimp := false) only [cutNo, beq_self_eq_true, Bool.true_or, Bool.false_eq_true, if_false, if_true]
theorem enter_of {P : Program} {T : List (List Char)} (h : behindMainWord (wordsSigns P.initOrder.toList) = "cut".toList :: T) (h1 : P.laysLater = false) (h2 : P.bearsReflect = false) (h3 : P.doorRows = []) : P.mayEnter = true := by
  unfold Program.mayEnter
  rw [h]
  simp (implicitDefEqProofs := false) (dsimp := false) only [cutStrip, cutNo, cutNo2, h1, h2, Program.doorFits, h3, List.head?_cons, beq_self_eq_true, Bool.not_false, Bool.or_true, Bool.and_true, Bool.true_and]
  rfl
theorem final_of {P : Program} {T : List (List Char)} (h : behindMainWord (wordsSigns P.initOrder.toList) = "cut".toList :: T) : P.liftsFinal = false := by
  unfold Program.liftsFinal Program.headLifts
  rw [h]
  simp (implicitDefEqProofs := false) (dsimp := false) only [cutStrip]
  kernel_rfl
theorem cutWord : behindMainWord (wordsSigns Try.prog.initOrder.toList) = "cut".toList :: (behindMainWord (wordsSigns Try.prog.initOrder.toList)).tail := by
  have h : Try.prog.initOrder.toList = _ := String.toList_ofList
  rw [h]
  show (_ : List (List Char)) = _
  kernel_rfl
theorem pLater : Try.prog.laysLater = false := by
  unfold Program.laysLater
  rw [← Array.any_toList]
  kernel_rfl
theorem pReflect : Try.prog.bearsReflect = false := by kernel_rfl
theorem pDoor : Try.prog.doorRows = [] := by kernel_rfl
theorem pMake : Try.prog.make = some .cut := make_of cutWord
theorem pEnter : Try.prog.mayEnter = true := enter_of cutWord pLater pReflect pDoor
theorem pFinal : Try.prog.liftsFinal = false := final_of cutWord
theorem pLaid : laidOutB Try.prog = true := by kernel_rfl
theorem pRowed : mapsRowed Try.prog = true := by kernel_rfl
theorem pStops : (Try.prog.stops == []) = true := by kernel_rfl
theorem pKnobs : (Try.prog.stopKnobs == []) = true := by kernel_rfl
theorem pHeard : Try.prog.stopsHeard = true := by kernel_rfl
theorem pOwn : ownKnob Try.prog.godebug = none := by kernel_rfl
theorem andB {a b : Bool} (ha : a = true) (hb : b = true) : (a && b) = true := by rw [ha, hb]; rfl
end Go.Proofs
