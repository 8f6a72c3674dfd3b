/- Part W 3 of what the proof of TopHalf stands on: what the functions of the program compute. -/
import Derived.Test.YtblhpmhfhpmifaaW2
import Derived.Test.YtblhpmhfhpmifaaRows
import Derived.ProofKit
import Derived.JoinedCond
import Derived.SizedLaws
import Derived.ReadAgain
import Derived.Deep.SlicePairs
import Derived.Deep.Matrix
import Derived.Lib.SmallJoins
import Derived.ChangeSlices
set_option linter.unusedVariables false
set_option linter.unusedSimpArgs false
namespace Go.Proofs
open Go.Aw
set_option linter.unusedSimpArgs false
set_option maxRecDepth 10000
set_option maxHeartbeats 2000000
theorem pts_all : ∀ n, n < 7 → pts (2 ^ n - 1) = List.range n := by decide +kernel
theorem GI.full {n : Nat} {L R : List (List Nat)} {g : GS} (h : GI n L R g) (hf : g.free = []) : ∀ j, j < n → ∃ i, i < n ∧ g.has.getD j default = (i : Int) := by
  have hr : ∀ i, i < n → ∃ j, j < n ∧ g.has.getD j default = (i : Int) := fun i hi => (h.cov i hi).resolve_left (by rw [hf]; simp)
  have hp0 : Pairs n fun i => (if hi : i < n then Classical.choose (hr i hi) else 0) := by
    refine ⟨fun i hi => ?_, fun i k hi hk e => ?_⟩
    · simp (implicitDefEqProofs := false) (dsimp := false) only [dif_pos hi]; exact (Classical.choose_spec (hr i hi)).1
    · simp (implicitDefEqProofs := false) (dsimp := false) only [dif_pos hi, dif_pos hk] at e
      have h1 := (Classical.choose_spec (hr i hi)).2
      have h2 := (Classical.choose_spec (hr k hk)).2
      rw [e] at h1
      rw [h1] at h2
      exact Int.ofNat_inj.1 h2
  intro j hj
  obtain ⟨i, hi, e⟩ := hp0.sur hj
  simp (implicitDefEqProofs := false) (dsimp := false) only [dif_pos hi] at e
  exact ⟨i, hi, by rw [← e]; exact (Classical.choose_spec (hr i hi)).2⟩
structure PI where
  m : Nat
  pre : List Nat
  g : GS
def outK (has : List Int) (n k : Nat) : List Nat := (List.range k).foldl (fun o j => o.set (has.getD j default).toNat j) (List.replicate n 0)
theorem outK_len (has : List Int) (n k : Nat) : (outK has n k).length = n := by
  induction k with
  | zero => simp [outK]
  | succ k ih => unfold outK at ih ⊢; rw [List.range_succ, List.foldl_append, List.foldl_cons, List.foldl_nil, List.length_set]; exact ih
theorem outK_succ (has : List Int) (n k : Nat) : outK has n (k + 1) = (outK has n k).set (has.getD k default).toNat k := by
  unfold outK; rw [List.range_succ, List.foldl_append]; rfl
def pairsR (L R : List (List Int)) : List Nat := if stE L R = 0 then gale L.length (toN L) (toN R) else []
theorem spairs_spec (L R : List (List Int)) (hpre : (L.length < 2 ^ 62 ∧ ∀ x ∈ L, x.length < 2 ^ 62) ∧ R.length < 2 ^ 62 ∧ ∀ x ∈ R, x.length < 2 ^ 62) : FnD Try.prog 46 [.l (L.map liD), .l (R.map liD)] (.t [.l ((pairsR L R).map nD), erD (stE L R)]) := by
  refine FnD.go Try.func46 rfl rfl Try.results46 Try.ntmps46 ?_
  simp (implicitDefEqProofs := false) (dsimp := false) only [↓aw_seq, ↓aw_reg, ↓Qseq_n, ↓ops_nil, ↓ops_cons, ↓eval_tmp, ↓eval_nil, ↓eval_func, ↓put_some, ↓op_move, ↓op_assign, ↓op_call, isD_d, ↓fnK_f, ↓call_H, ↓callK_H, ↓allT_nil, ↓allT_cons, ↓td_d, List.getD_cons_zero, List.getD_cons_succ, List.set_cons_zero, List.set_cons_succ, List.cons_append, List.nil_append, List.append_nil, List.map_cons, List.map_nil, List.length_cons, List.length_nil, List.all_cons, List.all_nil, Bool.and_self, Nat.reduceAdd, Nat.reduceSub, Nat.reduceMul, Nat.zero_add, List.replicate, evK_go, reduceIte, Nat.reduceEqDiff, Nat.reduceLT, and_self, Int.zero_add]
  simp (implicitDefEqProofs := false) (dsimp := false) only [scheck_call, hpre, eval_nilI, ↓er_neq, er_flat, ↓cdK_not, ↓aw_cond, ↓aw_seq, ↓aw_reg, ↓Qseq_n, ↓ops_nil, ↓ops_cons, ↓eval_tmp, ↓put_some, ↓bK_b, ↓op_move, ↓op_assign, ↓op_bin, List.getD_cons_zero, List.getD_cons_succ, List.set_cons_zero, List.set_cons_succ, Bool.true_and, Bool.or_true, Nat.reduceAdd, Nat.reduceSub, Nat.reduceMul, evK_go, reduceIte, Nat.reduceEqDiff, Nat.reduceLT, true_and]
  refine OrH.l (OrH.l ⟨⟨hpre.1.2, hpre.2.2⟩, ?_⟩)
  refine cdK_dec (fun hc => ?_) (fun hc => ?_)
  rotate_left
  · have e : pairsR L R = [] := if_neg hc
    simp (implicitDefEqProofs := false) (dsimp := false) only [e, ↓aw_seq, ↓aw_ret, ↓aw_reg, ↓Qseq_n, ↓Qseq_r, ↓Qret_r, ↓ops_nil, ↓ops_cons, ↓eval_tmp, ↓eval_nil, ↓put_some, ↓op_move, ↓op_assign, ↓td_d, ↓td_nl, ↓ret_2, List.getD_cons_zero, List.getD_cons_succ, List.set_cons_zero, List.set_cons_succ, List.map_nil, Nat.reduceAdd, Nat.reduceSub, Nat.reduceMul, evK_go, reduceIte, Nat.reduceEqDiff, Nat.reduceLT]
  have e1 : pairsR L R = gale L.length (toN L) (toN R) := if_pos hc
  have ok := st_ok hc
  rw [ok.dL, ok.dR, hc, e1]
  have hA := ok.pL
  have hB := ok.pR
  have hn6 := ok.hi
  have hAl := hA.len
  have hBl := hB.len
  clear ok hpre e1 hc
  generalize toN L = A at *
  generalize toN R = B at *
  generalize L.length = n at *
  simp (implicitDefEqProofs := false) (dsimp := false) only [hAl, ↓optK_some, ↓rwK_mk_, ↓aw_seq, ↓aw_block, ↓aw_skip, ↓aw_loop, ↓aw_reg, ↓aw_draw, ↓Qseq_n, ↓ops_nil, ↓ops_cons, ↓eval_tmp, ↓eval_int, ↓put_some, ↓iK_i, ↓dK_d, ↓lenK_l, ↓lenK_o, ↓ev_move, ↓op_move, ↓op_assign, ↓op_len, ↓op_make, ↓draw_H, ↓h_cons, ↓ldH_t, ↓ldH_n, ↓q_move, ↓il_move, ↓il_make, ↓addRow_mk, ↓st_rw, ↓cells_c, ↓one_i, constV_i, ↓mk_, ↓vsz_int, ↓ty3, ↓zb3, ↓sl28, ↓sl44, List.getD_cons_zero, List.getD_cons_succ, List.set_cons_zero, List.set_cons_succ, List.cons_append, List.nil_append, List.length_cons, List.length_nil, List.length_map, List.all_cons, List.all_nil, Bool.and_true, Bool.true_and, Bool.and_self, Nat.reduceAdd, Nat.reduceSub, Nat.reduceMul, Nat.zero_add, Int.toNat_natCast, evK_go, reduceIte, decide_true, Bool.not_true, Nat.reduceEqDiff, Nat.reduceLT, and_self, true_and, and_true, Int.zero_add, Int.natCast_nonneg]
  refine OrH.r (draw3 (S3 A B n) follows_mixed (by kernel_rfl) (by rfl) ?_ ?_ (fun c2 c3 h2 h3 => mk1 A B hn6 h2 h3 _ _) ?_ (fun c1 c3 t h1 h3 ht => mk2 A B hn6 h1 h3 ht _ _) ?_ (fun c1 c2 t h1 h2 ht => mk3 A B hn6 h1 h2 ht _ _) ?_ ?_ ?_ ?_)
  · refine Wkn.of [] [none, none, none] ?_
    simp (implicitDefEqProofs := false) (dsimp := false) only [tvA0, tvB0, tvC0, rv0, slots, ↓row_xs, List.set_cons_zero, List.set_cons_succ, Bool.and_self, Nat.reduceAdd, Nat.reduceSub, Nat.reduceMul, List.replicate, evK_go, reduceIte, Nat.reduceEqDiff, Nat.reduceLT, and_self, List.foldl_cons, List.foldl_nil, slots, wkL_nil, wkL_cons, wkB_nil, wkR_nil, wkR_new, wkV_j, wkV_d, frz_d, reduceCtorEq]
  · intro c2 c3
    simp (implicitDefEqProofs := false) (dsimp := false) only [S3, tvA0, tvA1, tvB0, tvB1, tvC0, rv0, rv1, slots, ↓ops_nil, ↓ops_cons, ↓eval_tmp, ↓put_some, ↓op_move, List.getD_cons_zero, List.getD_cons_succ, List.set_cons_zero, List.set_cons_succ, Nat.reduceAdd, Nat.reduceSub, Nat.reduceMul, List.replicate, evK_go, reduceIte, Nat.reduceEqDiff, Nat.reduceLT, List.foldl_cons, List.foldl_nil]
    exact Wkn.refl _
  · intro c1 c3 t
    simp (implicitDefEqProofs := false) (dsimp := false) only [S3, tvA0, tvA1, tvB0, tvB1, rv0, rv1, slots, ↓ops_nil, ↓ops_cons, ↓eval_tmp, ↓put_some, ↓op_move, List.getD_cons_zero, List.getD_cons_succ, List.set_cons_zero, List.set_cons_succ, Nat.reduceAdd, Nat.reduceSub, Nat.reduceMul, List.replicate, evK_go, reduceIte, Nat.reduceEqDiff, Nat.reduceLT, List.foldl_cons, List.foldl_nil]
    exact Wkn.refl _
  · intro c1 c2 t
    simp (implicitDefEqProofs := false) (dsimp := false) only [S3, tvA0, tvA1, tvB0, tvB1, rv0, rv1, slots, ↓ops_nil, ↓ops_cons, ↓eval_tmp, ↓put_some, ↓op_move, List.getD_cons_zero, List.getD_cons_succ, List.set_cons_zero, List.set_cons_succ, Nat.reduceAdd, Nat.reduceSub, Nat.reduceMul, List.replicate, evK_go, reduceIte, Nat.reduceEqDiff, Nat.reduceLT, List.foldl_cons, List.foldl_nil]
    exact Wkn.refl _
  · intro c2 c3
    simp (implicitDefEqProofs := false) (dsimp := false) only [S3, tvA0, tvA1, tvA2, tvB0, tvB1, tvB2, tvC0, tvC1, rv2, slots, ↓ops_nil, ↓ops_cons, ↓eval_tmp, ↓put_some, ↓op_assign, List.getD_cons_zero, List.getD_cons_succ, List.set_cons_zero, List.set_cons_succ, Nat.reduceAdd, Nat.reduceSub, Nat.reduceMul, List.replicate, evK_go, reduceIte, Nat.reduceEqDiff, Nat.reduceLT, List.foldl_cons, List.foldl_nil]
    exact Wkn.refl _
  · intro c3
    simp (implicitDefEqProofs := false) (dsimp := false) only [S3, tvA1, tvA2, tvB1, tvB2, tvC1, tvC2, rv2, slots, ↓ops_nil, ↓ops_cons, ↓eval_tmp, ↓put_some, ↓op_assign, List.getD_cons_zero, List.getD_cons_succ, List.set_cons_zero, List.set_cons_succ, Nat.reduceAdd, Nat.reduceSub, Nat.reduceMul, List.replicate, evK_go, reduceIte, Nat.reduceEqDiff, Nat.reduceLT, List.foldl_cons, List.foldl_nil]
    exact Wkn.refl _
  · simp (implicitDefEqProofs := false) (dsimp := false) only [S3, tvA2, tvA3, tvB2, tvB3, tvC2, tvC3, rv2, slots, ↓ops_nil, ↓ops_cons, ↓eval_tmp, ↓put_some, ↓op_assign, List.getD_cons_zero, List.getD_cons_succ, List.set_cons_zero, List.set_cons_succ, Nat.reduceAdd, Nat.reduceSub, Nat.reduceMul, List.replicate, evK_go, reduceIte, Nat.reduceEqDiff, Nat.reduceLT, List.foldl_cons, List.foldl_nil]
    exact Wkn.refl _
  simp (implicitDefEqProofs := false) (dsimp := false) only [S3, tvA2, tvA3, tvB2, tvB3, tvC3, rv2, slots, ↓optK_some, ↓rwK_mk_, ↓aw_seq, ↓aw_block, ↓aw_loop, ↓aw_reg, ↓Qseq_n, ↓ops_nil, ↓ops_cons, ↓eval_tmp, ↓eval_int, ↓put_some, ↓lenK_o, ↓op_move, ↓op_len, ↓sl28, List.getD_cons_zero, List.getD_cons_succ, List.set_cons_zero, List.set_cons_succ, Nat.reduceAdd, Nat.reduceSub, Nat.reduceMul, List.replicate, evK_go, reduceIte, Nat.reduceEqDiff, Nat.reduceLT, List.foldl_cons, List.foldl_nil]
  refine loopW (fun k : Nat => { tm := slots 109 [(0, .d (.l (A.map lnR))), (1, .d (.l (B.map lnR))), (7, .d (I .i64 (n : Int))), (8, .o 0 0 n), (9, .o 1 0 n), (10, .o 2 0 n), (33, .d (I .i64 (n : Int))), (34, .d (I .i64 k))], bx := [], rw := [some ⟨1, (List.replicate n 0).map nD⟩, some ⟨1, (List.replicate n 0).map nD⟩, some ⟨1, (negK n k).map (I .i64)⟩] })
    (fun k => k ≤ n) (fun k => n - k) 0 (by simp) ?_ ?_
  · refine Wkn.of [] [some 0, some 1, some 2] ?_
    simp (implicitDefEqProofs := false) (dsimp := false) only [negK_zero, List.map_replicate, nD, List.getD_cons_zero, List.getD_cons_succ, List.set_cons_zero, List.set_cons_succ, Bool.and_self, Nat.reduceAdd, Nat.reduceSub, Nat.reduceMul, List.replicate, evK_go, reduceIte, Nat.reduceEqDiff, Nat.reduceLT, and_self, List.foldl_cons, List.foldl_nil, Int.cast_ofNat_Int, slots, wkL_nil, wkL_cons, wkB_nil, wkR_nil, wkR_some, wkV_j, wkV_d, wkV_o, frz_d, oK_zs, oK_s, reduceCtorEq]
  · intro k hk
    have hnl := negK_len hk
    simp (implicitDefEqProofs := false) (dsimp := false) only [slots, ↓aw_cond, ↓aw_seq, ↓aw_reg, ↓Qseq_n, ↓ops_nil, ↓ops_cons, ↓eval_tmp, ↓put_some, ↓bK_b, ↓binE_i, ↓bi_lss, ↓op_bin, List.getD_cons_zero, List.getD_cons_succ, List.set_cons_zero, List.set_cons_succ, Nat.reduceAdd, Nat.reduceSub, Nat.reduceMul, List.replicate, evK_go, reduceIte, Nat.reduceEqDiff, Nat.reduceLT, List.foldl_cons, List.foldl_nil, Int.ofNat_lt]
    refine cdK_dec (fun h => ?_) (fun h => ?_)
    · have hns := negK_set h
      simp (implicitDefEqProofs := false) (dsimp := false) only [h, ↓optK_some, ↓rwK_mk_, ↓aw_seq, ↓aw_block, ↓aw_skip, ↓aw_reg, ↓Qseq_n, ↓Qblk_n, ↓ops_nil, ↓ops_cons, ↓eval_tmp, ↓eval_int, ↓put_some, ↓put_none, ↓iK_i, ↓dK_d, ↓binE_i, ↓bi_add, ↓in_i64, ↓iaK_o, ↓op_move, ↓op_assign, ↓op_bin, ↓op_ia, ↓op_store, ↓setRow_mk, ↓row_sz, ↓row_xs, ↓cells_c, ↓one_i, ↓st_e, ↓ty3, ↓sl28, List.getD_cons_zero, List.getD_cons_succ, List.set_cons_zero, List.set_cons_succ, List.length_cons, List.length_nil, List.all_cons, List.all_nil, Bool.true_and, Bool.and_self, Nat.reduceAdd, Nat.reduceSub, Nat.reduceMul, Nat.zero_add, Int.toNat_natCast, evK_go, reduceIte, decide_true, Nat.reduceEqDiff, Nat.reduceLT, and_self, true_and, Int.zero_add, Int.ofNat_lt, Int.natCast_nonneg]
      refine ⟨by omega, k + 1, by omega, by omega, ?_⟩
      refine Wkn.of [] [some 0, some 1, some 2] ?_
      simp (implicitDefEqProofs := false) (dsimp := false) only [← hns, List.map_set, List.getD_cons_zero, List.getD_cons_succ, List.set_cons_zero, List.set_cons_succ, Bool.and_self, Nat.reduceAdd, Nat.reduceSub, Nat.reduceMul, List.replicate, evK_go, reduceIte, Nat.reduceEqDiff, Nat.reduceLT, and_self, List.foldl_cons, List.foldl_nil, Int.cast_ofNat_Int, Int.natCast_add, slots, wkL_nil, wkL_cons, wkB_nil, wkR_nil, wkR_some, wkV_j, wkV_d, wkV_o, frz_d, oK_zs, oK_s, reduceCtorEq]
    · obtain rfl : k = n := by omega
      have hk64 : k < 64 := by omega
      have hkp : 2 ^ k - 1 < 2 ^ 64 := by
        have := Nat.pow_le_pow_right (n := 2) (by omega) (show k ≤ 6 by omega)
        omega
      have hpa : ptsI (2 ^ k - 1) = (List.range k).map Int.ofNat := by unfold ptsI; rw [pts_all k (by omega)]
      simp (implicitDefEqProofs := false) (dsimp := false) only [below_call, list_call, hk64, hkp, hpa, negK_all, rflat_I, ↓aw_seq, ↓aw_block, ↓aw_exit, ↓aw_loop, ↓aw_reg, ↓Qseq_n, ↓Qseq_x, ↓Qblk_x, ↓ops_nil, ↓ops_cons, ↓eval_tmp, ↓eval_func, ↓put_some, ↓op_move, ↓op_assign, ↓op_call, isD_d, ↓fnK_f, ↓call_H, ↓callK_H, ↓allT_nil, ↓allT_cons, ↓td_d, ↓addRow_mk, ↓st_rw, List.getD_cons_zero, List.getD_cons_succ, List.set_cons_zero, List.set_cons_succ, List.cons_append, List.nil_append, List.append_nil, List.length_cons, List.length_nil, List.length_map, List.all_cons, List.all_nil, Bool.true_and, Bool.and_self, Bool.or_true, Bool.true_or, Nat.reduceAdd, Nat.reduceSub, Nat.reduceMul, Nat.zero_add, evK_go, reduceIte, decide_false, Nat.reduceEqDiff, Nat.reduceLT, and_self, true_and, Nat.lt_irrefl, Int.zero_add]
      (repeat refine OrH.l ?_)
      refine loopW (fun x : PI => { tm := slots 109 [(0, .d (.l (A.map lnR))), (1, .d (.l (B.map lnR))), (8, .o 0 0 k), (9, .o 1 0 k), (10, .o 2 0 k), (12, .o 3 x.pre.length x.g.free.length)], bx := [], rw := [some ⟨1, (List.replicate k 0).map nD⟩, some ⟨1, x.g.nx.map nD⟩, some ⟨1, x.g.has.map (I .i64)⟩, some ⟨1, (x.pre ++ x.g.free).map nD⟩] })
        (fun x => GI k A B x.g ∧ k * k ≤ asked x.g + x.m ∧ gRun A B x.m x.g = gRun A B (k * k) (gStart k)) (fun x => x.m) ⟨k * k, [], gStart k⟩ ⟨GI.start k A B, by show k * k ≤ asked (gStart k) + k * k; omega, rfl⟩ ?_ ?_
      · refine Wkn.of [] [some 0, some 1, some 2, some 3] ?_
        simp (implicitDefEqProofs := false) (dsimp := false) only [gStart, nDI, List.nil_append, List.length_nil, List.getD_cons_zero, List.getD_cons_succ, List.set_cons_zero, List.set_cons_succ, List.nil_append, List.length_nil, Bool.and_self, Nat.reduceAdd, Nat.reduceSub, Nat.reduceMul, List.replicate, evK_go, reduceIte, Nat.reduceEqDiff, Nat.reduceLT, and_self, List.foldl_cons, List.foldl_nil, slots, wkL_nil, wkL_cons, wkB_nil, wkR_nil, wkR_some, wkV_j, wkV_d, wkV_o, frz_d, oK_zs, oK_s, reduceCtorEq]
      · rintro ⟨m, pre, g⟩ ⟨hI, hm, hrun⟩
        simp only at hI hm hrun
        simp (implicitDefEqProofs := false) (dsimp := false) only [slots, ↓optK_some, ↓rwK_mk_, ↓aw_cond, ↓aw_seq, ↓aw_reg, ↓Qseq_n, ↓ops_nil, ↓ops_cons, ↓eval_tmp, ↓eval_int, ↓put_some, ↓bK_b, ↓lenK_o, ↓binE_i, ↓bi_gtr, ↓op_move, ↓op_bin, ↓op_len, ↓sl28, List.getD_cons_zero, List.getD_cons_succ, List.set_cons_zero, List.set_cons_succ, Nat.reduceAdd, Nat.reduceSub, Nat.reduceMul, List.replicate, evK_go, reduceIte, Nat.reduceEqDiff, Nat.reduceLT, List.foldl_cons, List.foldl_nil]
        refine cdK_dec (fun h1 => ?_) (fun h1 => ?_)
        · have hne : g.free ≠ [] := fun e => by rw [e] at h1; simp at h1
          have hstep := hI.step hA hB
          have hask := gStep_asked hI hne
          have hlt := hI.asked_lt hA hne
          obtain ⟨i, rest, e⟩ := List.exists_cons_of_ne_nil hne
          have hi : i ∈ g.free := by rw [e]; simp
          have hin := hI.freeLt i hi
          have hnx := hI.nx_lt hA hi
          have hnl := hI.ln
          have hhl := hI.lh
          cases m with
          | zero => omega
          | succ m =>
          have hrn : gRun A B (m + 1) g = gRun A B m (gStep A B g) := if_neg hne
          have hel : (pre ++ g.free).getD pre.length default = i := by
            rw [List.getD_eq_getElem?_getD, List.getElem?_append_right (Nat.le_refl _), Nat.sub_self, e]; rfl
          have hell : pre.length < (pre ++ g.free).length := by rw [List.length_append, e]; simp
          have hfl : 0 < g.free.length := by rw [e]; simp
          have hiA : i < A.length := by omega
          obtain ⟨hx1, hx2, hx3⟩ := hA.row hin
          have hj : gJ A g i < k := hA.get_lt hin hnx
          have hgs : gStep A B g = (if g.has.getD (gJ A g i) default < 0 then ⟨rest, g.nx.set i (g.nx.getD i default + 1), g.has.set (gJ A g i) i⟩
            else if (B.getD (gJ A g i) default).idxOf i < (B.getD (gJ A g i) default).idxOf (g.has.getD (gJ A g i) default).toNat then ⟨(g.has.getD (gJ A g i) default).toNat :: rest, g.nx.set i (g.nx.getD i default + 1), g.has.set (gJ A g i) i⟩
            else ⟨i :: rest, g.nx.set i (g.nx.getD i default + 1), g.has⟩) := by
            unfold gStep
            rw [e]
          have hjd : (A.getD i default).getD (g.nx.getD i default) default = gJ A g i := rfl
          have hnxi : i < g.nx.length := by omega
          have hnxx : g.nx.getD i default < (A.getD i default).length := by omega
          generalize hjn : gJ A g i = j at hj hgs hjd
          have hjh : j < g.has.length := by omega
          simp (implicitDefEqProofs := false) (dsimp := false) only [hel, hell, hiA, hnxx, hjd, hnl, hhl, hin, hj, lnR, nD, ↓optK_some, ↓rwK_mk_, ↓atK_H, ↓atH_map, ↓nthK_H, ↓nthH_zero, ↓aw_cond, ↓aw_seq, ↓aw_block, ↓aw_skip, ↓aw_reg, ↓aw_draw, ↓Qseq_n, ↓ops_nil, ↓ops_cons, ↓eval_tmp, ↓eval_int, ↓put_some, ↓put_none, ↓bK_b, ↓iK_i, ↓dK_d, ↓ev_move, ↓ev_assign, ↓ev_load, ↓ev_ia, ↓binE_i, ↓bi_add, ↓bi_lss, ↓in_i64, ↓ldK_q, ↓ldK_e, ↓iaK_l, ↓iaK_o, ↓op_move, ↓op_assign, ↓op_load, ↓op_bin, ↓op_ia, ↓op_store, ↓draw_H, ↓h_nil, ↓h_cons, ↓ldH_n, ↓q_move, ↓q_assign, ↓q_load, ↓q_ia, ↓il_move, ↓il_assign, ↓il_load, ↓il_ia, ↓setRow_mk, ↓row_sz, ↓row_xs, ↓cells_c, ↓cells_l, ↓one_i, ↓st_e, ↓hd_cons, ↓ty3, ↓ty28, ↓sl28, ↓sl44, List.getD_cons_zero, List.getD_cons_succ, List.set_cons_zero, List.set_cons_succ, List.length_cons, List.length_nil, List.all_cons, List.all_nil, Bool.true_and, Bool.and_self, Nat.reduceAdd, Nat.reduceSub, Nat.reduceMul, Nat.zero_add, Nat.add_zero, Int.toNat_natCast, Int.toNat_zero, evK_go, reduceIte, Nat.reduceEqDiff, Nat.reduceLT, and_self, true_and, Int.zero_add, Int.ofNat_lt, Int.natCast_nonneg]
          have hnxm : g.nx.map nD = g.nx.map nD := rfl
          have hvb : -9223372036854775808 ≤ (g.nx.getD i default : Int) + 1 ∧ (g.nx.getD i default : Int) + 1 ≤ 9223372036854775807 := by omega
          have hjB : j < B.length := by omega
          have hBj := (hB.row hj).1
          have hm2 : k * k ≤ asked (gStep A B g) + m := by rw [hask]; omega
          refine ⟨⟨by omega, by omega⟩, OrH.l ⟨DrawH.of follows_mixed (by kernel_rfl), hvb, cdK_dec (fun h2 => ?_) (fun h2 => ?_)⟩⟩
          · rw [if_pos h2] at hgs
            simp (implicitDefEqProofs := false) (dsimp := false) only [hj, ↓optK_some, ↓rwK_mk_, ↓aw_reg, ↓Qseq_n, ↓Qblk_n, ↓ops_nil, ↓ops_cons, ↓eval_tmp, ↓eval_int, ↓put_some, ↓put_none, ↓iK_i, ↓dK_d, ↓optI_none, ↓optI_some, ↓iaK_o, ↓sliK_o, ↓op_move, ↓op_assign, ↓op_ia, ↓op_slice, ↓op_store, ↓setRow_mk, ↓row_sz, ↓row_xs, ↓cells_c, ↓one_i, ↓st_e, ↓ty3, ↓sl28, List.getD_cons_zero, List.getD_cons_succ, List.set_cons_zero, List.set_cons_succ, List.length_cons, List.length_nil, List.all_cons, List.all_nil, Bool.true_and, Bool.and_self, Nat.reduceAdd, Nat.reduceSub, Nat.reduceMul, Nat.zero_add, Int.toNat_natCast, Int.toNat_one, evK_go, reduceIte, Nat.reduceEqDiff, Nat.reduceLT, and_self, true_and, Option.getD_none, Option.getD_some, Int.zero_add, Int.ofNat_lt, Int.ofNat_le, Int.natCast_nonneg]
            have e3 : ((g.free.length : Int) - 1).toNat = rest.length := by rw [e]; simp
            have e4 : List.map nD (pre ++ g.free) = List.map nD ((pre ++ [i]) ++ rest) := by rw [e]; simp
            refine ⟨⟨by omega, by omega, by omega⟩, ⟨m, pre ++ [i], gStep A B g⟩, ⟨hstep, hm2, by rw [← hrun, hrn]⟩, Nat.lt_succ_self m, ?_⟩
            refine Wkn.of [] [some 0, some 1, some 2, some 3] ?_
            rw [hgs]
            simp (implicitDefEqProofs := false) (dsimp := false) only [e3, e4, List.map_set, List.length_append, List.length_cons, List.length_nil, nD, List.getD_cons_zero, List.getD_cons_succ, List.set_cons_zero, List.set_cons_succ, List.length_cons, List.length_nil, Bool.and_self, Nat.reduceAdd, Nat.reduceSub, Nat.reduceMul, Nat.zero_add, List.replicate, evK_go, reduceIte, Nat.reduceEqDiff, Nat.reduceLT, and_self, Int.zero_add, List.foldl_cons, List.foldl_nil, Int.cast_ofNat_Int, Int.natCast_add, slots, wkL_nil, wkL_cons, wkB_nil, wkR_nil, wkR_some, wkV_j, wkV_d, wkV_o, frz_d, oK_zs, oK_s, reduceCtorEq]
          · rw [if_neg h2] at hgs
            obtain ⟨w, hwn, hwe⟩ : ∃ w, w < k ∧ g.has.getD j default = (w : Int) := by
              rcases hI.hasR j hj with h3 | ⟨w, h3, h4, _⟩
              · omega
              · exact ⟨w, h3, h4⟩
            have hmi := hB.mem hj hin
            have hmw := hB.mem hj hwn
            have hB62 : (B.getD j default).length < 2 ^ 62 := by omega
            rw [hwe, Int.toNat_natCast] at hgs
            simp (implicitDefEqProofs := false) (dsimp := false) only [hwe, hjB, lnR, indexN_callQ, hmi, hmw, hB62, ↓atK_H, ↓atH_map, ↓aw_cond, ↓aw_seq, ↓aw_draw, ↓Qseq_n, ↓eval_tmp, ↓eval_func, ↓put_some, ↓bK_b, ↓iK_i, ↓ev_move, ↓ev_assign, ↓ev_load, ↓ev_bin, ↓ev_ia, ↓binE_i, ↓bi_lss, ↓ldK_q, ↓iaK_l, isD_d, ↓fnK_f, ↓callKQ_H, ↓allT_nil, ↓allT_cons, ↓td_d, ↓draw_H, ↓h_nil, ↓h_cons, ↓ldH_n, ↓q_call, ↓q_move, ↓q_assign, ↓q_load, ↓q_bin, ↓q_ia, ↓il_move, ↓il_assign, ↓il_load, ↓il_bin, ↓il_ia, ↓il_call, ↓row_sz, ↓row_xs, ↓cells_l, ↓hd_cons, ↓ty28, ↓sl44, List.getD_cons_zero, List.getD_cons_succ, List.set_cons_zero, List.set_cons_succ, List.append_nil, List.length_cons, List.length_nil, List.all_cons, List.all_nil, Bool.true_and, Bool.and_self, Bool.true_or, Nat.reduceAdd, Nat.reduceSub, Nat.reduceMul, Nat.zero_add, Int.toNat_natCast, evK_go, reduceIte, Nat.reduceEqDiff, Nat.reduceLT, and_self, true_and, Int.zero_add, Int.ofNat_lt, Int.natCast_nonneg]
            refine OrH.l ⟨DrawH.of follows_mixed (by kernel_rfl), ?_⟩
            (repeat refine OrH.l ?_)
            refine cdK_dec (fun h4 => ?_) (fun h4 => ?_)
            · rw [if_pos (by omega)] at hgs
              simp (implicitDefEqProofs := false) (dsimp := false) only [hj, ↓optK_some, ↓rwK_mk_, ↓aw_reg, ↓Qseq_n, ↓Qblk_n, ↓ops_nil, ↓ops_cons, ↓eval_tmp, ↓eval_int, ↓put_some, ↓put_none, ↓iK_i, ↓dK_d, ↓iaK_o, ↓op_move, ↓op_ia, ↓op_store, ↓setRow_mk, ↓row_sz, ↓row_xs, ↓cells_c, ↓one_i, ↓st_e, ↓ty3, ↓sl28, List.getD_cons_zero, List.getD_cons_succ, List.set_cons_zero, List.set_cons_succ, List.length_cons, List.length_nil, List.all_cons, List.all_nil, Bool.true_and, Bool.and_self, Nat.reduceAdd, Nat.reduceSub, Nat.reduceMul, Nat.zero_add, Nat.add_zero, Int.toNat_natCast, Int.toNat_zero, evK_go, reduceIte, Nat.reduceEqDiff, Nat.reduceLT, and_self, true_and, Int.zero_add, Int.ofNat_lt, Int.natCast_nonneg]
              have e4 : (List.map nD (pre ++ g.free)).set pre.length (D.c (Value.int IntKind.i64 (w : Int))) = List.map nD (pre ++ (w :: rest)) := by
                show (List.map nD (pre ++ g.free)).set pre.length (nD w) = _
                rw [← List.map_set, e, List.set_append, if_neg (by omega), Nat.sub_self]
                rfl
              have e5 : g.free.length = rest.length + 1 := by rw [e]; rfl
              refine ⟨⟨by omega, by omega⟩, ⟨m, pre, gStep A B g⟩, ⟨hstep, hm2, by rw [← hrun, hrn]⟩, Nat.lt_succ_self m, ?_⟩
              refine Wkn.of [] [some 0, some 1, some 2, some 3] ?_
              rw [hgs]
              simp (implicitDefEqProofs := false) (dsimp := false) only [e4, e5, List.map_set, List.length_cons, nD, List.getD_cons_zero, List.getD_cons_succ, List.set_cons_zero, List.set_cons_succ, List.length_cons, Bool.and_self, Nat.reduceAdd, Nat.reduceSub, Nat.reduceMul, List.replicate, evK_go, reduceIte, Nat.reduceEqDiff, Nat.reduceLT, and_self, List.foldl_cons, List.foldl_nil, Int.cast_ofNat_Int, Int.natCast_add, slots, wkL_nil, wkL_cons, wkB_nil, wkR_nil, wkR_some, wkV_j, wkV_d, wkV_o, frz_d, oK_zs, oK_s, reduceCtorEq]
            · rw [if_neg (by omega)] at hgs
              simp (implicitDefEqProofs := false) (dsimp := false) only [↓optK_some, ↓rwK_mk_, ↓aw_seq, ↓aw_block, ↓aw_exit, ↓aw_loop, ↓aw_reg, ↓Qseq_n, ↓Qseq_x, ↓Qblk_n, ↓Qblk_x, ↓ops_nil, ↓ops_cons, ↓eval_tmp, ↓eval_int, ↓put_some, ↓put_none, ↓iK_i, ↓dK_d, ↓lenK_o, ↓iaK_o, ↓op_move, ↓op_ia, ↓op_len, ↓op_store, ↓setRow_mk, ↓row_sz, ↓row_xs, ↓cells_c, ↓one_i, ↓st_e, ↓ty3, ↓sl28, List.getD_cons_zero, List.getD_cons_succ, List.set_cons_zero, List.set_cons_succ, List.length_cons, List.length_nil, List.all_cons, List.all_nil, Bool.true_and, Bool.and_self, Nat.reduceAdd, Nat.reduceSub, Nat.reduceMul, Nat.zero_add, Int.toNat_natCast, evK_go, reduceIte, Nat.reduceEqDiff, Nat.reduceLT, and_self, true_and, Int.zero_add, Int.ofNat_lt, Int.natCast_nonneg]
              refine ⟨⟨m, pre, gStep A B g⟩, ⟨hstep, hm2, by rw [← hrun, hrn]⟩, Nat.lt_succ_self m, ?_⟩
              refine Wkn.of [] [some 0, some 1, some 2, some 3] ?_
              rw [hgs, ← e]
              simp (implicitDefEqProofs := false) (dsimp := false) only [List.map_set, nD, List.getD_cons_zero, List.getD_cons_succ, List.set_cons_zero, List.set_cons_succ, Bool.and_self, Nat.reduceAdd, Nat.reduceSub, Nat.reduceMul, List.replicate, evK_go, reduceIte, Nat.reduceEqDiff, Nat.reduceLT, and_self, List.foldl_cons, List.foldl_nil, Int.cast_ofNat_Int, Int.natCast_add, slots, wkL_nil, wkL_cons, wkB_nil, wkR_nil, wkR_some, wkV_j, wkV_d, wkV_o, frz_d, oK_zs, oK_s, reduceCtorEq]
        · have hf : g.free = [] := List.eq_nil_of_length_eq_zero (by omega)
          have hq : gRun A B m g = g := by cases m with | zero => rfl | succ m => exact if_pos hf
          have hfull := hI.full hf
          have hhl := hI.lh
          have hout : gale k A B = outK g.has k k := by
            unfold gale outG outK
            rw [← hrun, hq, hhl]
          rw [hout]
          simp (implicitDefEqProofs := false) (dsimp := false) only [↓optK_some, ↓rwK_mk_, ↓aw_seq, ↓aw_block, ↓aw_exit, ↓aw_loop, ↓aw_reg, ↓Qseq_n, ↓Qseq_x, ↓Qblk_x, ↓ops_nil, ↓ops_cons, ↓eval_tmp, ↓eval_int, ↓put_some, ↓lenK_o, ↓op_move, ↓op_len, ↓sl28, List.getD_cons_zero, List.getD_cons_succ, List.set_cons_zero, List.set_cons_succ, Nat.reduceAdd, Nat.reduceSub, Nat.reduceMul, evK_go, reduceIte, Nat.reduceEqDiff, Nat.reduceLT]
          refine loopW (fun q : Nat => { tm := slots 109 [(8, .o 0 0 k), (96, .o 1 0 k), (97, .d (I .i64 (k : Int))), (98, .d (I .i64 q))], bx := [], rw := [some ⟨1, (outK g.has k q).map nD⟩, some ⟨1, g.has.map (I .i64)⟩] })
            (fun q => q ≤ k) (fun q => k - q) 0 (by simp) ?_ ?_
          · refine Wkn.of [] [some 0, some 2] ?_
            simp (implicitDefEqProofs := false) (dsimp := false) only [outK, List.range_zero, List.foldl_nil, List.getD_cons_zero, List.getD_cons_succ, List.set_cons_zero, List.set_cons_succ, Bool.and_self, Nat.reduceAdd, Nat.reduceSub, Nat.reduceMul, List.replicate, evK_go, reduceIte, Nat.reduceEqDiff, Nat.reduceLT, and_self, List.foldl_cons, List.foldl_nil, Int.cast_ofNat_Int, slots, wkL_nil, wkL_cons, wkB_nil, wkR_nil, wkR_some, wkV_j, wkV_d, wkV_o, frz_d, oK_zs, oK_s, reduceCtorEq]
          · intro q hq1
            have hol := outK_len g.has k q
            have hos := outK_succ g.has k q
            simp (implicitDefEqProofs := false) (dsimp := false) only [slots, ↓aw_cond, ↓aw_seq, ↓aw_reg, ↓Qseq_n, ↓ops_nil, ↓ops_cons, ↓eval_tmp, ↓put_some, ↓bK_b, ↓binE_i, ↓bi_lss, ↓op_bin, List.getD_cons_zero, List.getD_cons_succ, List.set_cons_zero, List.set_cons_succ, Nat.reduceAdd, Nat.reduceSub, Nat.reduceMul, List.replicate, evK_go, reduceIte, Nat.reduceEqDiff, Nat.reduceLT, List.foldl_cons, List.foldl_nil, Int.ofNat_lt]
            refine cdK_dec (fun h2 => ?_) (fun h2 => ?_)
            · obtain ⟨w, hwn, hwe⟩ := hfull q h2
              rw [hwe, Int.toNat_natCast] at hos
              have hqh : q < g.has.length := by omega
              simp (implicitDefEqProofs := false) (dsimp := false) only [h2, hhl, hwe, hwn, ↓optK_some, ↓rwK_mk_, ↓atK_H, ↓atH_map, ↓nthK_H, ↓nthH_zero, ↓aw_seq, ↓aw_block, ↓aw_skip, ↓aw_reg, ↓Qseq_n, ↓Qblk_n, ↓ops_nil, ↓ops_cons, ↓eval_tmp, ↓eval_int, ↓put_some, ↓put_none, ↓iK_i, ↓dK_d, ↓binE_i, ↓bi_add, ↓in_i64, ↓ldK_e, ↓iaK_o, ↓op_move, ↓op_assign, ↓op_load, ↓op_bin, ↓op_ia, ↓op_store, ↓setRow_mk, ↓row_sz, ↓row_xs, ↓cells_c, ↓one_i, ↓st_e, ↓ty3, ↓sl28, List.getD_cons_zero, List.getD_cons_succ, List.set_cons_zero, List.set_cons_succ, List.length_cons, List.length_nil, List.all_cons, List.all_nil, Bool.true_and, Bool.and_self, Nat.reduceAdd, Nat.reduceSub, Nat.reduceMul, Nat.zero_add, Int.toNat_natCast, evK_go, reduceIte, decide_true, Nat.reduceEqDiff, Nat.reduceLT, and_self, true_and, Int.zero_add, Int.ofNat_lt, Int.natCast_nonneg]
              refine ⟨by omega, q + 1, by omega, by omega, ?_⟩
              refine Wkn.of [] [some 0, some 1] ?_
              simp (implicitDefEqProofs := false) (dsimp := false) only [hos, List.map_set, nD, List.getD_cons_zero, List.getD_cons_succ, List.set_cons_zero, List.set_cons_succ, Bool.and_self, Nat.reduceAdd, Nat.reduceSub, Nat.reduceMul, List.replicate, evK_go, reduceIte, Nat.reduceEqDiff, Nat.reduceLT, and_self, List.foldl_cons, List.foldl_nil, Int.cast_ofNat_Int, Int.natCast_add, slots, wkL_nil, wkL_cons, wkB_nil, wkR_nil, wkR_some, wkV_j, wkV_d, wkV_o, frz_d, oK_zs, oK_s, reduceCtorEq]
            · obtain rfl : q = k := by omega
              have e6 : List.take q (List.map nD (outK g.has q q)) = List.map nD (outK g.has q q) := List.take_of_length_le (by rw [List.length_map]; omega)
              simp (implicitDefEqProofs := false) (dsimp := false) only [e6, eval_nilI, ↓optK_some, ↓rwK_mk_, ↓aw_seq, ↓aw_exit, ↓aw_ret, ↓aw_reg, ↓Qseq_n, ↓Qseq_x, ↓Qblk_x, ↓Qret_r, ↓ops_nil, ↓ops_cons, ↓eval_tmp, ↓put_some, ↓op_move, ↓op_assign, ↓td_d, ↓td_o, ↓ret_2, ↓row_xs, List.getD_cons_zero, List.getD_cons_succ, List.set_cons_zero, List.set_cons_succ, Nat.reduceAdd, Nat.reduceSub, Nat.reduceMul, evK_go, reduceIte, decide_false, Nat.reduceEqDiff, Nat.reduceLT, Nat.lt_irrefl, List.drop_zero]
              rfl
theorem spairs_call (L R : List (List Int)) (pure : Bool) (σ : St) (dst : Option Tmp) (K : St → Prop) : CallH Try.prog 46 [.l (L.map liD), .l (R.map liD)] pure σ dst (.mk : Hid K) = OrH (((L.length < 2 ^ 62 ∧ ∀ x ∈ L, x.length < 2 ^ 62) ∧ R.length < 2 ^ 62 ∧ ∀ x ∈ R, x.length < 2 ^ 62) ∧ (pure || D.flat (.t [.l ((pairsR L R).map nD), erD (stE L R)])) = true ∧ evK (σ.put dst (.d (.t [.l ((pairsR L R).map nD), erD (stE L R)]))) (.mk : Hid K)) (.mk : Hid (CallH Try.prog 46 [.l (L.map liD), .l (R.map liD)] pure σ dst (.mk : Hid K))) := CallH.eq (spairs_spec L R) pure σ dst K
theorem spairs_callQ (L R : List (List Int)) (pure : Bool) (C : V → Prop) : CallQ Try.prog 46 [.l (L.map liD), .l (R.map liD)] pure (.mk : Hid C) = OrH (((L.length < 2 ^ 62 ∧ ∀ x ∈ L, x.length < 2 ^ 62) ∧ R.length < 2 ^ 62 ∧ ∀ x ∈ R, x.length < 2 ^ 62) ∧ (pure || D.flat (.t [.l ((pairsR L R).map nD), erD (stE L R)])) = true ∧ evK (V.d (.t [.l ((pairsR L R).map nD), erD (stE L R)])) (.mk : Hid C)) (.mk : Hid (CallQ Try.prog 46 [.l (L.map liD), .l (R.map liD)] pure (.mk : Hid C))) := CallQ.eq (spairs_spec L R) pure C
end Go.Proofs

namespace Go.Proofs
open Go.Aw Go.ChangeShapes Go.WideShapes Go.ChangeAt Go.RowKit Go.Deep
set_option linter.unusedVariables false
set_option maxRecDepth 100000
theorem tkids : Kids Try.prog (· < Try.prog.types.size) := kids_rows (by kernel_rfl) (by kernel_rfl)
theorem tfull : ∀ t e, t < Try.prog.types.size → Try.prog.underlying t = some (.slice e) → 0 < Try.prog.cellsOf e := slices_full_of _ (by kernel_rfl)
theorem tu3 : Try.prog.underlying 3 = some (.int .i64) := by kernel_rfl
theorem tu4 : Try.prog.underlying 4 = some .bool := by kernel_rfl
theorem tu22 : Try.prog.underlying 22 = some (.slice 35) := by kernel_rfl
theorem tc35 : Try.prog.cellsOf 35 = 2 := by kernel_rfl
theorem tc3 : Try.prog.cellsOf 3 = 1 := by kernel_rfl
theorem tb35 : Try.prog.bytesOf 35 = 16 := by kernel_rfl
section
variable {H : Type} {enc : TypeId × Value → H} {P : Program} {w w' : World} {base : Nat} {spare : Nat → Bool} {held : Bool}
theorem trodAll_later : ∀ {ts : List TypeId} {vs : List Value} {ds : List (DataW H)} {ps : List MemPlace}, DataW.TrodAll enc P w base spare held ts vs ds ps → (∀ p ∈ ps, w.sameAt w' p) → DataW.TrodAll enc P w' base spare held ts vs ds ps
  | [], [], [], _, h, _ => h
  | _ :: _, _ :: _, _ :: _, _, ⟨p, q, ⟨n, h1⟩, h2, e⟩, hs => ⟨p, q, ⟨n, DataW.trod_carry n _ _ _ h1 (fun x hx => hs x (by rw [e]; exact List.mem_append_left _ hx))⟩, trodAll_later h2 (fun x hx => hs x (by rw [e]; exact List.mem_append_right _ hx)), e⟩
end
/-- A law's end: true, and all as it was. -/
theorem law_post {H : Type} {enc : TypeId × Value → H} {fn : Func} {s : ChangeSpec} {W W' : World} {args : Array Value} {ds gs : List (DataW H)} {before : List MemPlace} (hv : s.vars = []) (hrt : fn.resultTypes = #[4])
    (hpt : ∀ t ∈ fn.params.toList, t < Try.prog.types.size) (hW : DataW.Whole enc Try.prog fn.params.toList s.vars false W args.toList ds gs before)
    (hs : (s.fn H (ds ++ gs)).results = [.lit (.bool true)] ∧ (s.fn H (ds ++ gs)).args = ds ∧ (s.fn H (ds ++ gs)).vars = []) (hB : Below W.heap.size W W') : s.post enc Try.prog fn false true false false W args (.bool true) W' := by
  have hW' := hW
  obtain ⟨p, q, hA, hV, rfl, hfz, hnd⟩ := hW
  have hlt := hW'.lt
  rw [hv] at hV
  obtain ⟨rfl, rfl⟩ := trodVars_none hV
  obtain ⟨h1, h2, h3⟩ := hs
  refine ⟨ds, [], p ++ [], [], p, [], hW', ?_, ?_, ?_, hB.frame _, fun h => by cases h⟩
  · rw [h1, hrt]
    exact trodAll_mk1 (shut_bool tu4 true)
  · rw [h2]
    refine DataW.TrodAll.respare tkids tfull hpt (trodAll_later hA fun x hx => hB.same (hlt x (List.mem_append_left _ hx))) fun x hx => ?_
    simpa using hlt x (List.mem_append_left _ hx)
  · rw [h3, hv]; rfl
/-- What lies there already. -/
abbrev Old (W : World) (b : Nat) : Prop := b < W.heap.size
section
variable {H : Type} {enc : TypeId × Value → H} {W : World} {held : Bool}
theorem arg_int {v : Value} {d : DataW H} {p : List MemPlace} {r : Reach} {b0 : Nat} (hval : Value.okWide Try.prog W r b0 3 v) (h : DataW.Trod enc Try.prog W 0 (fun _ => true) held 3 v d p) : ∃ n : Int, RelD W (Old W) (I .i64 n) v ∧ (-9223372036854775808 ≤ n ∧ n ≤ 9223372036854775807) := by
  obtain ⟨n, rfl, _, _, hw⟩ := open_int tu3 hval h
  exact ⟨n, .c _, by simpa [Lit.wf, IntKind.min, IntKind.max, IntKind.signed, IntKind.bits] using hw⟩
theorem arg_lines {v : Value} {d : DataW H} {p : List MemPlace} {r : Reach} {b0 : Nat} (hval : Value.okWide Try.prog W r b0 22 v) (h : DataW.Trod enc Try.prog W 0 (fun _ => true) held 22 v d p) :
    ∃ l : List (Int × Int), RelD W (Old W) (.l (l.map lnD)) v ∧ ((d = .nil ∧ l = []) ∨ ∃ elems spare, d = .slice elems spare ∧ elems.length = l.length) := by
  obtain ⟨a0, len, cap, rfl⟩ := okWide_slice tu22 hval
  obtain ⟨fuel, hf⟩ := h
  rcases open_slice_pairs tu22 Try.underlying35 tc35 rfl rfl tc3 tc3 hf with ⟨hcs, hx⟩ | ⟨a, len', cap', m, n, V0, V1, D0, D1, P0, P1, hcs, _, hl, hm, hmm, hx, hc⟩
  · simp [Value.cells] at hcs
    obtain ⟨rfl, rfl, rfl⟩ := hcs
    simp (implicitDefEqProofs := false) (dsimp := false) only [Prod.mk.injEq] at hx
    exact ⟨[], .nl none 0, .inl ⟨hx.1, rfl⟩⟩
  · simp [Value.cells] at hcs
    obtain ⟨rfl, rfl, rfl⟩ := hcs
    simp (implicitDefEqProofs := false) (dsimp := false) only [Prod.mk.injEq] at hx
    simp (implicitDefEqProofs := false) (dsimp := false) only [if_true] at hmm
    subst hmm
    have hint : ∀ i, ∃ q : Int × Int, i < len → W.cell? (a.add (i * 2)) = some (.int .i64 q.1) ∧ W.cell? (a.add (i * 2 + 1)) = some (.int .i64 q.2) := by
      intro i
      by_cases hi : i < len
      · obtain ⟨h1, h2, h3, h4⟩ := hc i (by omega)
        obtain ⟨x, e1, _, _⟩ := DataW.trod_int tu3 h3
        obtain ⟨y, e2, _, _⟩ := DataW.trod_int tu3 h4
        simp (implicitDefEqProofs := false) (dsimp := false) only [List.cons.injEq, and_true] at e1 e2
        exact ⟨(x, y), fun _ => ⟨by rw [h1, e1], by rw [h2, e2]⟩⟩
      · exact ⟨(0, 0), fun h => absurd h hi⟩
    obtain ⟨Q, hQ⟩ : ∃ Q : Nat → Int × Int, ∀ i, i < len → W.cell? (a.add (i * 2)) = some (.int .i64 (Q i).1) ∧ W.cell? (a.add (i * 2 + 1)) = some (.int .i64 (Q i).2) := ⟨fun i => Classical.choose (hint i), fun i => Classical.choose_spec (hint i)⟩
    refine ⟨(List.range len).map Q, ?_, .inr ⟨_, _, hx.1, by simp⟩⟩
    by_cases h0 : len = 0
    · subst h0; exact .nl _ _
    have hxs : ∀ (i : Nat) (x : D), (((List.range len).map Q).map lnD)[i]? = some x → i < len ∧ x = lnD (Q i) := by
      intro i x hx
      rw [List.getElem?_map, List.getElem?_map] at hx
      by_cases hi : i < len
      · rw [List.getElem?_range hi] at hx
        simp at hx
        exact ⟨hi, hx.symm⟩
      · rw [List.getElem?_eq_none (by simp; omega)] at hx; cases hx
    have hlen : len = (((List.range len).map Q).map lnD).length := by simp
    have hrel := RelD.l (w := W) (N := Old W) (((List.range len).map Q).map lnD) a _ 2 (fun i k => if k = 0 then .int .i64 (Q i).1 else .int .i64 (Q i).2) (by rw [← hlen]; exact hl) ?_ ?_ ?_ ?_
    · rw [← hlen] at hrel
      exact hrel
    · have := (hQ 0 (by omega)).1
      unfold World.cell? at this
      split at this
      · rename_i C et fr hb
        have hb' := (Array.getElem?_eq_some_iff.1 hb).1
        rw [add_block] at hb'
        exact hb'
      · cases this
    · intro i x hx
      obtain ⟨_, rfl⟩ := hxs i x hx
      rfl
    · intro i k x y hx hy
      obtain ⟨hi, rfl⟩ := hxs i x hx
      match k, hy with
      | 0, hy => exact (hQ i hi).1
      | 1, hy => exact (hQ i hi).2
    · intro i k x y hx hy
      obtain ⟨hi, rfl⟩ := hxs i x hx
      match k, hy with
      | 0, hy => cases hy; exact .c _
      | 1, hy => cases hy; exact .c _
theorem arg_line {v : Value} {d : DataW H} {p : List MemPlace} {r : Reach} {b0 : Nat} (hval : Value.okWide Try.prog W r b0 35 v) (h : DataW.Trod enc Try.prog W 0 (fun _ => true) held 35 v d p) :
    ∃ q : Int × Int, RelD W (Old W) (lnD q) v ∧ True := by
  obtain ⟨v0, v1, y0, y1, n, rfl, _, _, h3, h4⟩ := Joins.open_agg2 Try.underlying35 (by kernel_rfl) tc35 hval h
  obtain ⟨x, e1, _, _⟩ := DataW.trod_int tu3 h3
  obtain ⟨y, e2, _, _⟩ := DataW.trod_int tu3 h4
  simp (implicitDefEqProofs := false) (dsimp := false) only [List.cons.injEq, and_true] at e1 e2
  subst e1
  subst e2
  refine ⟨(x, y), ?_, trivial⟩
  refine RelD.s _ _ (by rfl) fun k z u hz hu => ?_
  match k, hz, hu with
  | 0, hz, hu => cases hz; cases hu; exact .c _
  | 1, hz, hu => cases hz; cases hu; exact .c _
theorem lines_len {ts : List TypeId} {ds : List (DataW H)} {j : Nat} {l : List (Int × Int)} (h : (DataW.weightsEach Try.prog ts ds).all (· ≤ reachBytes) = true) (ht : ts[j]? = some 22) {d : DataW H} (hd : ds[j]? = some d)
    (hl : (d = .nil ∧ l = []) ∨ ∃ elems spare, d = .slice elems spare ∧ elems.length = l.length) : l.length < 2 ^ 43 := by
  rcases hl with ⟨_, rfl⟩ | ⟨elems, spare, rfl, e⟩
  · simp
  · have := sized_slice h ht hd tu22
    rw [tb35] at this
    have := reachBytes_lt
    omega
end
theorem argsOK_nil (w : World) (N : Nat → Prop) : ArgsOK w N [] [] := ⟨rfl, fun k d v h => by simp at h⟩
theorem argsOK_cons {w : World} {N : Nat → Prop} {d : D} {ds : List D} {v : Value} {vs : List Value} (h : RelD w N d v) (hs : ArgsOK w N ds vs) : ArgsOK w N (d :: ds) (v :: vs) :=
  ⟨by simp [hs.1], fun k d' v' hd hv => by
    cases k with
    | zero => simp at hd hv; subst hd; subst hv; exact h
    | succ k => exact hs.2 k d' v' (by simpa using hd) (by simpa using hv)⟩
/-- A law's call. -/
theorem law_calls {f : FuncId} {ds : List D} (h : FnD Try.prog f ds (Bo true)) (W : World) (vs : List Value) (ha : ArgsOK W (Old W) ds vs) : Calls Try.prog f vs.toArray W fun e W' => e = .returned (.bool true) ∧ Below W.heap.size W W' := by
  have := callsIn_wide.1 (h.2 W (Old W) vs (fun b h => h) ha)
  refine this.mono fun e W' ⟨r, v, hr, he, hB, hres⟩ => ?_
  subst hr
  have hv : v = .bool true := relD_c hres
  exact ⟨by rw [he, hv], hB⟩
end Go.Proofs

namespace Go.Proofs
open Go.Aw Go.ChangeShapes Go.WideShapes Go.ChangeAt Go.RowKit Go.Deep
set_option linter.unusedVariables false
set_option maxRecDepth 100000
theorem tu28 : Try.prog.underlying 28 = some (.slice 3) := by kernel_rfl
theorem tu44 : Try.prog.underlying 44 = some (.slice 28) := by kernel_rfl
theorem tc28 : Try.prog.cellsOf 28 = 1 := by kernel_rfl
theorem tb3 : Try.prog.bytesOf 3 = 8 := by kernel_rfl
theorem tb28 : Try.prog.bytesOf 28 = 24 := by kernel_rfl
section
variable {H : Type} {enc : TypeId × Value → H} {W : World} {held : Bool}
theorem old_cell {W : World} {a : Addr} {i : Nat} {v : Value} (h : W.cell? (a.add i) = some v) : Old W a.block := by
  unfold World.cell? at h
  split at h
  · rename_i C et fr hb
    have hb' := (Array.getElem?_eq_some_iff.1 hb).1
    rw [add_block] at hb'
    exact hb'
  · cases h
theorem ints_rel {W : World} {a : Addr} {len cap : Nat} {zs : List Int} (hl : len ≤ cap) (hz : len ≤ zs.length) (hc : ∀ i, i < len → W.cell? (a.add i) = some (.int .i64 (zs.getD i 0))) :
    RelD W (Old W) (.l ((zs.take len).map (I .i64))) (.slice (some a) len cap) := by
  by_cases h0 : len = 0
  · subst h0; exact .nl _ _
  have hxs : ∀ (i : Nat) (x : D), ((zs.take len).map (I .i64))[i]? = some x → i < len ∧ x = I .i64 (zs.getD i 0) := by
    intro i x hx
    rw [List.getElem?_map] at hx
    by_cases hi : i < len
    · rw [List.getElem?_take_of_lt hi, List.getElem?_eq_getElem (by omega)] at hx
      simp at hx
      refine ⟨hi, ?_⟩
      rw [List.getD_eq_getElem?_getD, List.getElem?_eq_getElem (by omega)]
      exact hx.symm
    · rw [List.getElem?_eq_none (by simp; omega)] at hx; cases hx
  have hlen : len = ((zs.take len).map (I .i64)).length := by simp; omega
  have hrel := RelD.l (w := W) (N := Old W) ((zs.take len).map (I .i64)) a cap 1 (fun i k => .int .i64 (zs.getD i 0)) (by rw [← hlen]; exact hl) (old_cell (hc 0 (by omega))) ?_ ?_ ?_
  · rw [← hlen] at hrel
    exact hrel
  · intro i x hx
    obtain ⟨_, rfl⟩ := hxs i x hx
    rfl
  · intro i k x y hx hy
    obtain ⟨hi, rfl⟩ := hxs i x hx
    match k, hy with
    | 0, hy => rw [show i * 1 + 0 = i by omega]; exact hc i hi
  · intro i k x y hx hy
    obtain ⟨hi, rfl⟩ := hxs i x hx
    match k, hy with
    | 0, hy => cases hy; exact .c _
theorem arg_ints {v : Value} {d : DataW H} {p : List MemPlace} {r : Reach} {b0 : Nat} (hval : Value.okWide Try.prog W r b0 28 v) (h : DataW.Trod enc Try.prog W 0 (fun _ => true) held 28 v d p) :
    ∃ l : List Int, RelD W (Old W) (.l (l.map (I .i64))) v ∧ ((d = .nil ∧ l = []) ∨ ∃ elems spare, d = .slice elems spare ∧ elems.length = l.length) := by
  obtain ⟨a0, len, cap, rfl⟩ := okWide_slice tu28 hval
  obtain ⟨fuel, hf⟩ := h
  rcases open_ints tu28 tu3 tc3 hf with ⟨hcs, hx⟩ | ⟨a, len', cap', zs, hcs, _, hl, hm, hz, hx, hc, _⟩
  · simp [Value.cells] at hcs
    obtain ⟨rfl, rfl, rfl⟩ := hcs
    simp (implicitDefEqProofs := false) (dsimp := false) only [Prod.mk.injEq] at hx
    exact ⟨[], .nl none 0, .inl ⟨hx.1, rfl⟩⟩
  · simp [Value.cells] at hcs
    obtain ⟨rfl, rfl, rfl⟩ := hcs
    simp (implicitDefEqProofs := false) (dsimp := false) only [Prod.mk.injEq] at hx
    simp (implicitDefEqProofs := false) (dsimp := false) only [if_true] at hz
    exact ⟨zs.take len, ints_rel hl (by omega) (fun i hi => hc i (by omega)), .inr ⟨_, _, hx.1, by simp [lits]⟩⟩
theorem ints_len {ts : List TypeId} {ds : List (DataW H)} {j : Nat} {l : List Int} (h : (DataW.weightsEach Try.prog ts ds).all (· ≤ reachBytes) = true) (ht : ts[j]? = some 28) {d : DataW H} (hd : ds[j]? = some d)
    (hl : (d = .nil ∧ l = []) ∨ ∃ elems spare, d = .slice elems spare ∧ elems.length = l.length) : l.length < 2 ^ 44 := by
  rcases hl with ⟨_, rfl⟩ | ⟨elems, spare, rfl, e⟩
  · simp
  · have := sized_slice h ht hd tu28
    rw [tb3] at this
    have := reachBytes_lt
    omega
theorem arg_rows {v : Value} {d : DataW H} {p : List MemPlace} {r : Reach} {b0 : Nat} (hval : Value.okWide Try.prog W r b0 44 v) (h : DataW.Trod enc Try.prog W 0 (fun _ => true) held 44 v d p) :
    ∃ l : List (List Int), RelD W (Old W) (.l (l.map liD)) v ∧ ((d = .nil ∧ l = []) ∨ ∃ elems spare, d = .slice elems spare ∧ elems.length = l.length ∧ ∀ x ∈ l, x = [] ∨ ∃ es sp, DataW.slice es sp ∈ elems ∧ es.length = x.length) := by
  obtain ⟨a0, len, cap, rfl⟩ := okWide_slice tu44 hval
  obtain ⟨fuel, hf⟩ := h
  rcases open_int_rows tu44 tu28 tu3 tc28 tc3 hf with ⟨hcs, hx⟩ | ⟨a, len', cap', A, L, C, Z, hcs, _, hl, hm, hx, hr⟩
  · simp [Value.cells] at hcs
    obtain ⟨rfl, rfl, rfl⟩ := hcs
    simp (implicitDefEqProofs := false) (dsimp := false) only [Prod.mk.injEq] at hx
    exact ⟨[], .nl none 0, .inl ⟨hx.1, rfl⟩⟩
  · simp [Value.cells] at hcs
    obtain ⟨rfl, rfl, rfl⟩ := hcs
    simp (implicitDefEqProofs := false) (dsimp := false) only [Prod.mk.injEq] at hx
    have hrow : ∀ r, r < len → RelD W (Old W) (liD ((Z r).take (L r))) (.slice (A r) (L r) (C r)) := by
      intro r hlt
      obtain ⟨_, h1, h2, h3, _, h5, h6⟩ := hr r (by omega)
      cases hA : A r with
      | none =>
        have := h5 hA
        rw [show L r = 0 by omega, show C r = 0 by omega]
        exact .nl _ _
      | some a' => exact ints_rel h1 (by omega) fun i hi => (h6 a' hA).2 i (by omega)
    refine ⟨(List.range len).map fun r => (Z r).take (L r), ?_, .inr ⟨_, _, hx.1, by simp, fun x hx => ?_⟩⟩
    · by_cases h0 : len = 0
      · subst h0; exact .nl _ _
      have hxs : ∀ (i : Nat) (x : D), (((List.range len).map fun r => (Z r).take (L r)).map liD)[i]? = some x → i < len ∧ x = liD ((Z i).take (L i)) := by
        intro i x hx
        rw [List.getElem?_map, List.getElem?_map] at hx
        by_cases hi : i < len
        · rw [List.getElem?_range hi] at hx
          simp at hx
          exact ⟨hi, hx.symm⟩
        · rw [List.getElem?_eq_none (by simp; omega)] at hx; cases hx
      have hlen : len = (((List.range len).map fun r => (Z r).take (L r)).map liD).length := by simp
      have hrel := RelD.l (w := W) (N := Old W) (((List.range len).map fun r => (Z r).take (L r)).map liD) a cap 1 (fun i k => .slice (A i) (L i) (C i)) (by rw [← hlen]; exact hl) (old_cell (hr 0 (by omega)).1) ?_ ?_ ?_
      · rw [← hlen] at hrel
        exact hrel
      · intro i x hx
        obtain ⟨_, rfl⟩ := hxs i x hx
        rfl
      · intro i k x y hx hy
        obtain ⟨hi, rfl⟩ := hxs i x hx
        match k, hy with
        | 0, hy => rw [show i * 1 + 0 = i by omega]; exact (hr i (by omega)).1
      · intro i k x y hx hy
        obtain ⟨hi, rfl⟩ := hxs i x hx
        match k, hy with
        | 0, hy => cases hy; exact hrow i hi
    · obtain ⟨r, hr1, rfl⟩ := List.mem_map.1 hx
      have hlt := List.mem_range.1 hr1
      obtain ⟨_, h1, h2, h3, _, h5, h6⟩ := hr r (by omega)
      cases hA : A r with
      | none =>
        left
        have := h5 hA
        exact List.eq_nil_of_length_eq_zero (by simp (implicitDefEqProofs := false) (dsimp := false) only [List.length_take]; omega)
      | some a' =>
        right
        refine ⟨_, _, List.mem_map.2 ⟨r, hr1, by rw [hA]; rfl⟩, by simp [lits]⟩
theorem weights_all {P : Program} {e : TypeId} {d : DataW H} {n : Nat} (hn : n ∈ d.weights P e) : ∀ {l : List (DataW H)}, d ∈ l → n ∈ DataW.weightsAll P e l := by
  intro l
  induction l with
  | nil => intro h; cases h
  | cons x l ih =>
    intro h
    unfold DataW.weightsAll
    rcases List.mem_cons.1 h with rfl | h
    · exact List.mem_append_left _ hn
    · exact List.mem_append_right _ (ih h)
theorem rows_len {ts : List TypeId} {ds : List (DataW H)} {j : Nat} {l : List (List Int)} (h : (DataW.weightsEach Try.prog ts ds).all (· ≤ reachBytes) = true) (ht : ts[j]? = some 44) {d : DataW H} (hd : ds[j]? = some d)
    (hl : (d = .nil ∧ l = []) ∨ ∃ elems spare, d = .slice elems spare ∧ elems.length = l.length ∧ ∀ x ∈ l, x = [] ∨ ∃ es sp, DataW.slice es sp ∈ elems ∧ es.length = x.length) : l.length < 2 ^ 43 ∧ ∀ x ∈ l, x.length < 2 ^ 44 := by
  rcases hl with ⟨_, rfl⟩ | ⟨elems, spare, rfl, e, hr⟩
  · exact ⟨by simp, fun x hx => by cases hx⟩
  · have hb := reachBytes_lt
    refine ⟨?_, fun x hx => ?_⟩
    · have := sized_slice h ht hd tu44
      rw [tb28] at this
      omega
    · rcases hr x hx with rfl | ⟨es, sp, hm, e2⟩
      · simp
      · have h1 : (es.length + sp.length) * Try.prog.bytesOf 3 ∈ (DataW.slice es sp).weights Try.prog 28 := by
          simp [DataW.weights]
        have h2 : (es.length + sp.length) * Try.prog.bytesOf 3 ∈ (DataW.slice elems spare).weights Try.prog 44 := by
          have := weights_all h1 hm
          simp [DataW.weights, this]
        have := List.all_eq_true.1 h _ (DataW.weights_mem_each ht hd _ h2)
        rw [tb3] at this
        have : (es.length + sp.length) * 8 ≤ reachBytes := by simpa using this
        omega
end
end Go.Proofs

namespace Go.Proofs
open Go.Aw
set_option linter.unusedSimpArgs false
set_option maxRecDepth 10000
def sgL : List (List Int) := [[0, 1], [0, 1]]
def sgR : List (List Int) := [[1, 0], [0, 1]]
theorem sg1_spec  : FnD Try.prog 46 [.l [.l [I .i64 0, I .i64 1], .l [I .i64 0, I .i64 1]], .l [.l [I .i64 1, I .i64 0], .l [I .i64 0, I .i64 1]]] (.t [.l [I .i64 1, I .i64 0], erD 0]) := by
  have h := spairs_spec sgL sgR (by decide)
  rw [show pairsR sgL sgR = [1, 0] by decide +kernel, show stE sgL sgR = 0 by decide +kernel] at h
  exact h
theorem sg1_call  (pure : Bool) (σ : St) (dst : Option Tmp) (K : St → Prop) : CallH Try.prog 46 [.l [.l [I .i64 0, I .i64 1], .l [I .i64 0, I .i64 1]], .l [.l [I .i64 1, I .i64 0], .l [I .i64 0, I .i64 1]]] pure σ dst (.mk : Hid K) = OrH ((pure || D.flat (.t [.l [I .i64 1, I .i64 0], erD 0])) = true ∧ evK (σ.put dst (.d (.t [.l [I .i64 1, I .i64 0], erD 0]))) (.mk : Hid K)) (.mk : Hid (CallH Try.prog 46 [.l [.l [I .i64 0, I .i64 1], .l [I .i64 0, I .i64 1]], .l [.l [I .i64 1, I .i64 0], .l [I .i64 0, I .i64 1]]] pure σ dst (.mk : Hid K))) := CallH.eq0 (sg1_spec ) pure σ dst K
theorem sg1_callQ  (pure : Bool) (C : V → Prop) : CallQ Try.prog 46 [.l [.l [I .i64 0, I .i64 1], .l [I .i64 0, I .i64 1]], .l [.l [I .i64 1, I .i64 0], .l [I .i64 0, I .i64 1]]] pure (.mk : Hid C) = OrH ((pure || D.flat (.t [.l [I .i64 1, I .i64 0], erD 0])) = true ∧ evK (V.d (.t [.l [I .i64 1, I .i64 0], erD 0])) (.mk : Hid C)) (.mk : Hid (CallQ Try.prog 46 [.l [.l [I .i64 0, I .i64 1], .l [I .i64 0, I .i64 1]], .l [.l [I .i64 1, I .i64 0], .l [I .i64 0, I .i64 1]]] pure (.mk : Hid C))) := CallQ.eq0 (sg1_spec ) pure C
theorem sg2_spec  : FnD Try.prog 47 [.l [.l [I .i64 0, I .i64 1], .l [I .i64 0, I .i64 1]], .l [.l [I .i64 1, I .i64 0], .l [I .i64 0, I .i64 1]], .l [I .i64 0, I .i64 1]] (.t [Bo false, erD 0]) := by
  have h := sis_spec sgL sgR [0, 1] (by decide)
  rw [show isB sgL sgR [0, 1] = false by decide +kernel, show isE sgL sgR [0, 1] = 0 by decide +kernel] at h
  exact h
theorem sg2_call  (pure : Bool) (σ : St) (dst : Option Tmp) (K : St → Prop) : CallH Try.prog 47 [.l [.l [I .i64 0, I .i64 1], .l [I .i64 0, I .i64 1]], .l [.l [I .i64 1, I .i64 0], .l [I .i64 0, I .i64 1]], .l [I .i64 0, I .i64 1]] pure σ dst (.mk : Hid K) = OrH ((pure || D.flat (.t [Bo false, erD 0])) = true ∧ evK (σ.put dst (.d (.t [Bo false, erD 0]))) (.mk : Hid K)) (.mk : Hid (CallH Try.prog 47 [.l [.l [I .i64 0, I .i64 1], .l [I .i64 0, I .i64 1]], .l [.l [I .i64 1, I .i64 0], .l [I .i64 0, I .i64 1]], .l [I .i64 0, I .i64 1]] pure σ dst (.mk : Hid K))) := CallH.eq0 (sg2_spec ) pure σ dst K
theorem sg2_callQ  (pure : Bool) (C : V → Prop) : CallQ Try.prog 47 [.l [.l [I .i64 0, I .i64 1], .l [I .i64 0, I .i64 1]], .l [.l [I .i64 1, I .i64 0], .l [I .i64 0, I .i64 1]], .l [I .i64 0, I .i64 1]] pure (.mk : Hid C) = OrH ((pure || D.flat (.t [Bo false, erD 0])) = true ∧ evK (V.d (.t [Bo false, erD 0])) (.mk : Hid C)) (.mk : Hid (CallQ Try.prog 47 [.l [.l [I .i64 0, I .i64 1], .l [I .i64 0, I .i64 1]], .l [.l [I .i64 1, I .i64 0], .l [I .i64 0, I .i64 1]], .l [I .i64 0, I .i64 1]] pure (.mk : Hid C))) := CallQ.eq0 (sg2_spec ) pure C
theorem sg3_spec  : FnD Try.prog 44 [.l [I .i64 1, I .i64 0], .l [I .i64 1, I .i64 0]] (Bo true) := by
  have h := ints_spec [1, 0] [1, 0] (by decide)
  exact h
theorem sg3_call  (pure : Bool) (σ : St) (dst : Option Tmp) (K : St → Prop) : CallH Try.prog 44 [.l [I .i64 1, I .i64 0], .l [I .i64 1, I .i64 0]] pure σ dst (.mk : Hid K) = OrH ((pure || D.flat (Bo true)) = true ∧ evK (σ.put dst (.d (Bo true))) (.mk : Hid K)) (.mk : Hid (CallH Try.prog 44 [.l [I .i64 1, I .i64 0], .l [I .i64 1, I .i64 0]] pure σ dst (.mk : Hid K))) := CallH.eq0 (sg3_spec ) pure σ dst K
theorem sg3_callQ  (pure : Bool) (C : V → Prop) : CallQ Try.prog 44 [.l [I .i64 1, I .i64 0], .l [I .i64 1, I .i64 0]] pure (.mk : Hid C) = OrH ((pure || D.flat (Bo true)) = true ∧ evK (V.d (Bo true)) (.mk : Hid C)) (.mk : Hid (CallQ Try.prog 44 [.l [I .i64 1, I .i64 0], .l [I .i64 1, I .i64 0]] pure (.mk : Hid C))) := CallQ.eq0 (sg3_spec ) pure C
theorem sfact2_spec  : FnD Try.prog 45 [] (Bo true) := by
  refine FnD.go Try.func45 rfl rfl Try.results45 Try.ntmps45 ?_
  simp (implicitDefEqProofs := false) (dsimp := false) only [↓aw_seq, ↓aw_reg, ↓Qseq_n, ↓ops_nil, ↓ops_cons, ↓eval_tmp, ↓eval_int, ↓eval_bool, ↓eval_func, ↓put_some, ↓dK_d, ↓op_move, ↓op_assign, ↓op_call, isD_d, ↓fnK_f, ↓call_H, ↓callK_H, ↓allT_nil, ↓allT_cons, ↓allD_nil, ↓allD_cons, ↓td_d, ↓cells_c, ↓cells_l, ↓one_i, ↓one_l, ↓bs_, ↓op_bs, ↓bsL_f, ↓stored_mk, ↓sl_nil, ↓sl_cons, ↓sT_assign, ↓sT_bs, ↓vsz_int, ↓vsz_slice, ↓inO_2, ↓fm_nil, ↓fm_cons, ↓ty3, ↓zb3, ↓ty28, ↓sl28, ↓zb28, ↓sl44, List.getD_cons_zero, List.getD_cons_succ, List.set_cons_zero, List.set_cons_succ, List.nil_append, List.append_nil, List.map_cons, List.map_nil, List.length_cons, List.length_nil, List.all_cons, List.all_nil, Bool.true_and, Bool.and_self, Bool.or_false, Nat.reduceAdd, Nat.reduceSub, Nat.reduceMul, Nat.zero_add, List.replicate, evK_go, reduceIte, Nat.reduceEqDiff, Nat.reduceLT, and_self, true_and, Int.zero_add]
  simp (implicitDefEqProofs := false) (dsimp := false) only [sg1_call, sg2_call, sg3_call, eval_nilI, ↓er_eql, ↓cdK_true, ↓gdK_t, ↓gval_mk, ↓gvL_zero, ↓gvL_succ, ↓nthK_H, ↓nthH_zero, ↓nthH_succ, ↓aw_seq, ↓aw_ret, ↓aw_reg, ↓Qseq_n, ↓Qret_r, ↓ops_nil, ↓ops_cons, ↓ops_guard, ↓eval_tmp, ↓eval_int, ↓eval_func, ↓put_some, ↓bK_b, ↓dK_d, ↓tK_t, ↓op_move, ↓op_assign, ↓op_pick, ↓op_bin, ↓op_not, ↓op_extract, ↓op_call, ↓orH_T, isD_d, ↓fnK_f, ↓call_H, ↓callK_H, ↓allT_nil, ↓allT_cons, ↓allD_nil, ↓allD_cons, ↓td_d, ↓ret_1, ↓st_tm, ↓cells_c, ↓one_i, ↓bs_, ↓op_bs, ↓bsL_f, ↓stored_mk, ↓sl_nil, ↓sl_cons, ↓sT_move, ↓sT_assign, ↓sT_pick, ↓sT_bin, ↓sT_un, ↓sT_extract, ↓sT_bs, ↓sT_call, ↓vsz_int, ↓inO_2, ↓fm_nil, ↓fm_cons, ↓ty3, ↓zb3, ↓sl28, List.getD_cons_zero, List.getD_cons_succ, List.set_cons_zero, List.set_cons_succ, List.append_nil, List.map_cons, List.map_nil, List.length_cons, List.length_nil, List.all_cons, List.all_nil, Bool.and_true, Bool.true_and, Bool.and_self, Bool.true_or, Bool.or_false, Nat.reduceAdd, Nat.reduceSub, Nat.reduceMul, Nat.zero_add, evK_go, reduceIte, decide_true, Bool.not_false, Nat.reduceEqDiff, Nat.reduceLT, and_self, true_and, and_true, Int.zero_add]
  refine ⟨by decide, by decide, by decide, by decide, by decide, by decide, ?_⟩
  (repeat refine OrH.l ?_)
  refine ⟨by decide, ?_⟩
  (repeat refine OrH.l ?_)
  decide
theorem sfact2_call  (pure : Bool) (σ : St) (dst : Option Tmp) (K : St → Prop) : CallH Try.prog 45 [] pure σ dst (.mk : Hid K) = OrH ((pure || D.flat (Bo true)) = true ∧ evK (σ.put dst (.d (Bo true))) (.mk : Hid K)) (.mk : Hid (CallH Try.prog 45 [] pure σ dst (.mk : Hid K))) := CallH.eq0 (sfact2_spec ) pure σ dst K
theorem sfact2_callQ  (pure : Bool) (C : V → Prop) : CallQ Try.prog 45 [] pure (.mk : Hid C) = OrH ((pure || D.flat (Bo true)) = true ∧ evK (V.d (Bo true)) (.mk : Hid C)) (.mk : Hid (CallQ Try.prog 45 [] pure (.mk : Hid C))) := CallQ.eq0 (sfact2_spec ) pure C
theorem mem_take {x : List Nat} (hx : x.Nodup) {b t : Nat} (hb : b ∈ x) : b ∈ x.take t ↔ x.idxOf b < t := by
  constructor
  · intro h
    obtain ⟨s, hs, e⟩ := List.mem_iff_getElem.1 h
    rw [List.length_take] at hs
    rw [List.getElem_take] at e
    have : x.idxOf b = s := by
      rw [← e]
      exact List.Nodup.idxOf_getElem hx s (by omega)
    omega
  · intro h
    have h1 := List.idxOf_lt_length_of_mem hb
    have e := List.getElem_idxOf h1
    exact List.mem_iff_getElem.2 ⟨x.idxOf b, by rw [List.length_take]; omega, by rw [List.getElem_take]; exact e⟩
theorem stbL_iff {n : Nat} {A B : List (List Nat)} (hA : Prefs n A) {H : List Nat} (hl : H.length = n) (hd : H.Nodup) (hr : ∀ y ∈ H, y < n) : stbL A B H = true ↔ Stb n A B (fun i => H.getD i default) := by
  have hP : Prefs n (List.replicate n H) := ⟨by simp, fun x hx => by rw [List.eq_of_mem_replicate hx]; exact ⟨hl, hd, hr⟩⟩
  have hm : ∀ j, j < n → j ∈ H := fun j hj => by
    have hm := hP.mem hj hj
    rwa [List.getD_eq_getElem?_getD, List.getElem?_replicate, if_pos hj] at hm
  have hg : ∀ k, k < n → H.idxOf (H.getD k default) = k := fun k hk => by
    rw [List.getD_eq_getElem?_getD, List.getElem?_eq_getElem (by omega)]
    exact List.Nodup.idxOf_getElem hd k (by omega)
  have hi : ∀ b, b < n → H.getD (H.idxOf b) default = b := fun b hb => by
    have h1 := List.idxOf_lt_length_of_mem (hm b hb)
    rw [List.getD_eq_getElem?_getD, List.getElem?_eq_getElem h1]
    exact List.getElem_idxOf h1
  have hH : ∀ k, k < n → H.getD k default < n := fun k hk => hr _ (getD_mem (by omega))
  unfold stbL
  rw [List.all_eq_true]
  constructor
  · intro h i k hin hkn hbad
    obtain ⟨h1, h2⟩ := hbad
    have h3 := List.all_eq_true.1 (h i (by simp; omega)) (H.getD k default) ((mem_take (hA.row hin).2.1 (hA.mem hin (hH k hkn))).2 h1)
    rw [hg k hkn] at h3
    have h4 : ¬ (B.getD (H.getD k default) default).idxOf i < (B.getD (H.getD k default) default).idxOf k := by simpa using h3
    exact h4 h2
  · intro h i hi0
    have hin : i < n := by have := List.mem_range.1 hi0; omega
    refine List.all_eq_true.2 fun b hb => ?_
    have hbx := List.mem_of_mem_take hb
    have hbn := (hA.row hin).2.2 b hbx
    have h1 := (mem_take (hA.row hin).2.1 hbx).1 hb
    have hk := List.idxOf_lt_length_of_mem (hm b hbn)
    have h2 := h i (H.idxOf b) hin (by omega)
    simp (implicitDefEqProofs := false) (dsimp := false) only [hi b hbn] at h2
    rw [decide_eq_false (fun h3 : (B.getD b default).idxOf i < (B.getD b default).idxOf (H.idxOf b) => h2 ⟨h1, h3⟩)]
    rfl
end Go.Proofs

namespace Go.Proofs
open Go.Aw
set_option linter.unusedSimpArgs false
set_option maxRecDepth 10000
structure StW (L R : List (List Int)) (n : Nat) (G : List Nat) : Prop where
  hi : n ≤ 6
  lenL : L.length = n
  len : G.length = n
  lt : ∀ y ∈ G, y < n
  nd : G.Nodup
  isE : isE L R (G.map Int.ofNat) = 0
  isB : isB L R (G.map Int.ofNat) = true
theorem pairs_nodup {n : Nat} {G : List Nat} (hl : G.length = n) (hp : Pairs n fun i => G.getD i default) : G.Nodup ∧ ∀ y ∈ G, y < n := by
  have hg : ∀ i (h : i < G.length), G.getD i default = G[i] := fun i h => by rw [List.getD_eq_getElem?_getD, List.getElem?_eq_getElem h]; rfl
  constructor
  · rw [List.Nodup, List.pairwise_iff_getElem]
    intro i j hi hj hij e
    have := hp.inj i j (by omega) (by omega) (by show G.getD i default = G.getD j default; rw [hg i hi, hg j hj]; exact e)
    omega
  · intro y hy
    obtain ⟨i, hi, rfl⟩ := List.mem_iff_getElem.1 hy
    have := hp.lt i (by omega)
    rwa [hg i hi] at this
theorem row_zero {n : Nat} {G : List Nat} (hl : G.length = n) (hd : G.Nodup) (hr : ∀ y ∈ G, y < n) : rowE n (G.map Int.ofNat) = 0 := by
  unfold rowE
  rw [if_neg (by simp [hl]), if_neg, if_pos]
  · rw [List.Nodup, List.pairwise_map]
    exact hd.imp fun {a b} h e => h (Int.ofNat.inj e)
  · rw [Bool.not_eq_false, List.all_eq_true]
    intro y hy
    obtain ⟨z, hz, rfl⟩ := List.mem_map.1 hy
    have := hr z hz
    exact inW_iff.2 ⟨Int.natCast_nonneg z, by show (z : Int) ≤ _; omega⟩
theorem toN_of (G : List Nat) : (G.map Int.ofNat).map Int.toNat = G := by
  rw [List.map_map]
  exact List.map_id _
theorem stW {L R : List (List Int)} (h : stE L R = 0) : StW L R L.length (pairsR L R) := by
  have ok := st_ok h
  have e : pairsR L R = gale L.length (toN L) (toN R) := if_pos h
  obtain ⟨g1, g2, g3, _⟩ := gale_spec ok.pL ok.pR
  rw [← e] at g1 g2 g3
  obtain ⟨h1, h2⟩ := pairs_nodup g1 g2
  have hE : isE L R ((pairsR L R).map Int.ofNat) = 0 := by
    unfold isE
    rw [if_pos h]
    exact row_zero g1 h1 h2
  refine ⟨ok.hi, rfl, g1, h2, h1, hE, ?_⟩
  unfold isB
  rw [if_pos hE, toN_of]
  exact (stbL_iff ok.pL g1 h1 h2).2 g3
theorem lStableGale_spec (L R : List (List Int)) (hL : L.length < 2 ^ 43 ∧ ∀ x ∈ L, x.length < 2 ^ 44) (hR : R.length < 2 ^ 43 ∧ ∀ x ∈ R, x.length < 2 ^ 44) :
    FnD Try.prog 11 [.l (L.map liD), .l (R.map liD)] (Bo true) := by
  have hpre : (L.length < 2 ^ 62 ∧ ∀ x ∈ L, x.length < 2 ^ 62) ∧ R.length < 2 ^ 62 ∧ ∀ x ∈ R, x.length < 2 ^ 62 := ⟨⟨by omega, fun x hx => by have := hL.2 x hx; omega⟩, by omega, fun x hx => by have := hR.2 x hx; omega⟩
  refine FnD.go Try.func11 rfl rfl Try.results11 Try.ntmps11 ?_
  simp (implicitDefEqProofs := false) (dsimp := false) only [↓aw_seq, ↓aw_reg, ↓Qseq_n, ↓ops_nil, ↓ops_cons, ↓eval_bool, ↓eval_func, ↓put_some, ↓op_assign, ↓op_call, isD_d, ↓fnK_f, ↓call_H, ↓callK_H, ↓allT_nil, ↓td_d, List.set_cons_zero, List.set_cons_succ, List.cons_append, List.nil_append, List.append_nil, List.map_cons, List.map_nil, List.length_cons, List.length_nil, List.all_nil, Bool.and_self, Nat.reduceAdd, Nat.reduceSub, Nat.reduceMul, Nat.zero_add, List.replicate, evK_go, reduceIte, Nat.reduceEqDiff, Nat.reduceLT, and_self, Int.zero_add]
  simp (implicitDefEqProofs := false) (dsimp := false) only [sfact2_call, spairs_call, hpre, eval_nilI, ↓er_neq, ↓cdK_false, ↓cdK_not, ↓nthK_H, ↓nthH_zero, ↓nthH_succ, ↓aw_cond, ↓aw_seq, ↓aw_skip, ↓aw_reg, ↓Qseq_n, ↓ops_nil, ↓ops_cons, ↓eval_tmp, ↓eval_func, ↓put_some, ↓bK_b, ↓tK_t, ↓op_move, ↓op_assign, ↓op_bin, ↓op_not, ↓op_extract, ↓op_call, isD_d, ↓fnK_f, ↓call_H, ↓callK_H, ↓allT_nil, ↓allT_cons, ↓td_d, List.getD_cons_zero, List.getD_cons_succ, List.set_cons_zero, List.set_cons_succ, List.append_nil, List.all_cons, List.all_nil, Bool.true_and, Bool.and_self, Bool.true_or, Nat.reduceAdd, Nat.reduceSub, Nat.reduceMul, evK_go, reduceIte, Bool.not_true, Nat.reduceEqDiff, Nat.reduceLT, and_self, true_and]
  refine OrH.l (OrH.l (OrH.l (OrH.l ⟨⟨hpre.1.2, hpre.2.2⟩, ?_⟩)))
  refine cdK_dec (fun hc => ?_) (fun hc => ?_)
  rotate_left
  · have e : pairsR L R = [] := if_neg hc
    simp (implicitDefEqProofs := false) (dsimp := false) only [e, ↓aw_seq, ↓aw_ret, ↓aw_reg, ↓Qseq_n, ↓Qseq_r, ↓Qret_r, ↓ops_nil, ↓ops_cons, ↓eval_tmp, ↓eval_int, ↓put_some, ↓lenK_l, ↓binE_i, ↓bi_eql, ↓op_move, ↓op_assign, ↓op_bin, ↓op_len, ↓td_d, ↓ret_1, ↓sl28, List.getD_cons_zero, List.getD_cons_succ, List.set_cons_zero, List.set_cons_succ, List.map_nil, List.length_nil, Nat.reduceAdd, Nat.reduceSub, Nat.reduceMul, evK_go, reduceIte, decide_true, Nat.reduceEqDiff, Nat.reduceLT, Int.cast_ofNat_Int]
  have w := stW hc
  obtain ⟨hi, lenL, len, lt, nd, hE, hB⟩ := w
  rw [nDI]
  obtain ⟨G, hG⟩ : ∃ G, G = (pairsR L R).map Int.ofNat := ⟨_, rfl⟩
  have hGl : G.length = L.length := by rw [hG, List.length_map]; exact len
  have hall : (G.all fun x => inB x 0 ((L.length : Int) - 1)) = true := by
    rw [List.all_eq_true]
    intro y hy
    rw [hG] at hy
    obtain ⟨z, hz, rfl⟩ := List.mem_map.1 hy
    have := lt z hz
    exact inW_iff.2 ⟨Int.natCast_nonneg z, by show (z : Int) ≤ _; omega⟩
  have htw : twice G = false := by
    show (!decide G.Nodup) = false
    rw [decide_eq_true]
    · rfl
    · rw [hG, List.Nodup, List.pairwise_map]
      exact nd.imp fun {a b} h e => h (Int.ofNat.inj e)
  rw [← hG] at hE hB ⊢
  have hG62 : G.length < 2 ^ 62 := by omega
  have hs : ((L.length < 2 ^ 62 ∧ ∀ x ∈ L, x.length < 2 ^ 62) ∧ R.length < 2 ^ 62 ∧ ∀ x ∈ R, x.length < 2 ^ 62) ∧ G.length < 2 ^ 62 := ⟨hpre, hG62⟩
  simp (implicitDefEqProofs := false) (dsimp := false) only [hc, hGl, allR_call, twice_call, hall, htw, sis_call, hs, hE, hB, eval_nilI, ↓er_eql, ↓cdK_true, ↓cdK_false, ↓gdK_t, ↓gdK_f, ↓gval_mk, ↓gvL_zero, ↓gvL_succ, ↓nthK_H, ↓nthH_zero, ↓nthH_succ, ↓aw_cond, ↓aw_seq, ↓aw_ret, ↓aw_skip, ↓aw_reg, ↓Qseq_n, ↓Qret_r, ↓ops_nil, ↓ops_cons, ↓ops_guard, ↓eval_tmp, ↓eval_int, ↓eval_func, ↓put_some, ↓bK_b, ↓lenK_l, ↓tK_t, ↓binE_i, ↓bi_sub, ↓bi_neq, ↓in_i64, ↓op_move, ↓op_assign, ↓op_pick, ↓op_bin, ↓op_not, ↓op_extract, ↓op_len, ↓op_call, isD_d, ↓fnK_f, ↓call_H, ↓callK_H, ↓allT_nil, ↓allT_cons, ↓td_d, ↓ret_1, ↓st_tm, ↓sl28, ↓sl44, List.getD_cons_zero, List.getD_cons_succ, List.set_cons_zero, List.set_cons_succ, List.append_nil, List.length_map, List.all_cons, List.all_nil, Bool.and_true, Bool.true_and, Bool.and_self, Bool.true_or, Nat.reduceAdd, Nat.reduceSub, Nat.reduceMul, evK_go, reduceIte, decide_true, Bool.not_true, Nat.reduceEqDiff, Nat.reduceLT, and_self, true_and, and_true]
  refine ⟨by omega, ?_⟩
  (repeat refine OrH.l ?_)
  exact ⟨hpre.1.2, hpre.2.2⟩
end Go.Proofs

namespace Go.Proofs
open Go.Aw
set_option linter.unusedSimpArgs false
set_option maxRecDepth 10000
theorem ty93 (k : Bool → Nat → Prop) : tyK Try.prog 93 k = k false 1 := tyK_eq (by kernel_rfl) k
theorem zb93 (k : Value → Nat → Prop) : zbK Try.prog 93 k = k .nilFunc 8 := zbK_eq (by kernel_rfl) k
/-- The boxes that it works on. -/
def tB (next : List Nat) (right sn : Nat) (rest : List V) : List V := .d (.l (next.map U)) :: .o 0 0 right :: .d (U sn) :: .fp (.func 97) [0, 2, 1, 3] :: rest
def tR (has : List Int) (restR : List (Option Row)) : List (Option Row) := some ⟨1, has.map (I .i64)⟩ :: restR
theorem end0 {α : Type} (rest : List α) (x : α) (ys : List α) (d : α) : (rest ++ x :: ys).getD rest.length d = x := by simp [List.getD_eq_getElem?_getD]
theorem end1 {α : Type} (rest : List α) (x y : α) (ys : List α) (d : α) : (rest ++ x :: y :: ys).getD (rest.length + 1) d = y := by simp [List.getD_eq_getElem?_getD, List.getElem?_append_right]
theorem endS1 {α : Type} (rest : List α) (x y z : α) (ys : List α) : (rest ++ x :: y :: ys).set (rest.length + 1) z = rest ++ x :: z :: ys := by simp [List.set_append]
theorem cells_fp (fn : Fn) (ps : List Nat) : (V.fp fn ps).cells = [.fp fn ps] := rfl
theorem ret_of {σ : St} {a b : Nat} {v : Value} {R : D → Prop} (h1 : σ.tm.getD a .j = .p b 0) (h2 : σ.bx.getD b .j = .d (.c v)) (h : R (.c v)) : retD Try.prog σ [.cell a 4] R := by
  show rvK Try.prog σ (.cell a 4) R
  unfold rvK
  simp (implicitDefEqProofs := false) (dsimp := false) only [h1, ty4, h2]
  exact nthK_mk (y := .d (.c v)) rfl (show tdK σ (.d (.c v)) R from h)
theorem try_spec {left right : Nat} {l : List (Nat × Nat)} (hr : right ≤ 8) (hl8 : left ≤ 8) (hg : ∀ i j, j ∈ pts ((outS (max left 1) l).getD i default) ↔ (i, j) ∈ l) (hlt : ∀ x ∈ outS (max left 1) l, x < 2 ^ 64) (hsd : Sides left right l) :
    ∀ (m i : Nat) (s : KS) (rest : List V) (restR : List (Option Row)) (gh : List V), i < left → HasOK right left l s.has → s.has.length = right → s.seen < 2 ^ 64 → unseen right s.seen < m → (∀ x ∈ rest, ∀ y ∈ x.cells, y.below (rest.length + 4)) →
    FnM Try.prog 97 [.d (I .i64 (i : Int)), .p 0 0, .p 2 0, .p 1 0, .p 3 0] (tB (outS (max left 1) l) right s.seen rest) (tR s.has restR) gh (fun d bx' rw' gh' => gh' = gh ∧ d = Bo (tryF (outS (max left 1) l) m i s).1 ∧
      bx' = tB (outS (max left 1) l) right (tryF (outS (max left 1) l) m i s).2.seen rest ∧ rw' = tR (tryF (outS (max left 1) l) m i s).2.has restR) := by
  intro m
  induction m with
  | zero => intro i s rest restR gh _ _ _ _ h; omega
  | succ m ih =>
    intro i s rest restR gh hi hok hlen hseen hun hrest
    have hol := outS_len (max left 1) l
    obtain ⟨next, hnext⟩ : ∃ next, next = outS (max left 1) l := ⟨_, rfl⟩
    have hts := fun (m i : Nat) (s : KS) h1 h2 => tryF_spec hsd (by omega) hg m i s h1 h2
    rw [← hnext] at hg hlt hol ih hts ⊢
    have hin : i < next.length := by omega
    have hnl := hlt _ (getD_mem hin)
    obtain ⟨res, hres⟩ : ∃ res, res = tryF next (m + 1) i s := ⟨_, rfl⟩
    rw [← hres]
    refine FnM.shrink (Kf' := fun d bx' rw' gh' => gh' = gh ∧ d = Bo res.1 ∧ (∃ a b, bx' = tB next right res.2.seen (rest ++ [a, b])) ∧ rw' = tR res.2.has restR) (FnM.go Try.func97 rfl rfl Try.results97 Try.ntmps97 ?_) ?_
    rotate_left
    · rintro d bx' rw' gh' ⟨rfl, rfl, ⟨a, b, rfl⟩, rfl⟩
      refine ⟨rfl, tB next right res.2.seen rest, [a, b], by simp [tB], by simp [tB], ?_, rfl, rfl, rfl, rfl⟩
      intro x hx y hy
      have hL : (tB next right res.2.seen rest).length = rest.length + 4 := by simp [tB]
      rw [hL]
      simp (implicitDefEqProofs := false) (dsimp := false) only [tB, List.mem_cons] at hx
      rcases hx with rfl | rfl | rfl | rfl | hx
      · simp [V.cells] at hy; subst hy; trivial
      · simp [V.cells] at hy; subst hy; trivial
      · have : y = .d (U res.2.seen) := by simpa [V.cells, U] using hy
        subst this; trivial
      · simp [V.cells] at hy; subst hy
        intro b hb
        simp at hb; omega
      · exact hrest x hx y hy
    · simp (implicitDefEqProofs := false) (dsimp := false) only [tB, tR, hin, each_call, List.append_assoc, List.length_append, end0, ↓atK_H, ↓atH_map, ↓nthK_H, ↓nthH_zero, ↓aw_seq, ↓aw_block, ↓aw_rng, ↓aw_reg, ↓Qseq_n, ↓ops_nil, ↓ops_cons, ↓eval_tmp, ↓eval_func, ↓put_some, ↓iK_i, ↓ldK_q, ↓ldK_p, ↓iaK_l, ↓op_load, ↓op_ia, ↓op_call, ↓op_alloc, ↓op_box, isD_d, ↓fnK_f, ↓call_H, ↓callK_H, ↓allT_nil, ↓allT_cons, ↓td_d, ↓addBox_mk, ↓st_bx, ↓cells_c, ↓vcells_c, ↓vcells_l, ↓one_i, ↓vone_d, constV_b, ↓hd_cons, ↓ty3, ↓zb4, ↓ty84, ↓sl84, ↓ty87, List.getD_cons_zero, List.getD_cons_succ, List.set_cons_zero, List.set_cons_succ, List.cons_append, List.nil_append, List.append_nil, List.length_cons, List.length_nil, List.all_cons, List.all_nil, Bool.true_and, Bool.and_self, Bool.true_or, Nat.reduceAdd, Nat.reduceSub, Nat.reduceMul, Nat.zero_add, Int.toNat_natCast, List.replicate, evK_go, reduceIte, Nat.reduceEqDiff, Nat.reduceLT, and_self, true_and, Int.zero_add, Int.natCast_nonneg]
      (repeat refine OrH.l ?_)
      refine rangeG (slots 37 [(1, .p 0 0), (2, .p 2 0), (3, .p 1 0), (4, .p 3 0), (5, .p (rest.length + 1 + 1 + 1 + 1) 0), (6, .p (rest.length + 1 + 1 + 1 + 1 + 1) 0), (12, .d (.f (.func 99) [.q [U (next.getD i default)]]))]) gh
        (fun st : KS => .d (.l (next.map U)) :: .o 0 0 right :: .d (U st.seen) :: .fp (.func 97) [0, 2, 1, 3] :: (rest ++ [.d (I .i64 (i : Int)), .d (Bo false)])) (fun st => some ⟨1, st.has.map (I .i64)⟩ :: restR)
        (fun ys st => ∃ P : List Nat, ys = P.map Int.ofNat ∧ (∀ rs, P ++ rs = pts (next.getD i default) → res = tryL (tryF next m) i rs st) ∧ HasOK right left l st.has ∧ st.has.length = right ∧ st.seen < 2 ^ 64 ∧ unseen right st.seen < m + 1) s
        (each_iter _ hnl) ?_ ⟨[], rfl, fun rs h => by rw [hres]; show tryL _ i (pts (next.getD i default)) s = _; rw [← h]; rfl, hok, hlen, hseen, hun⟩ ?_ ?_ ?_
      · simp (implicitDefEqProofs := false) (dsimp := false) only [slots, ↓eval_tmp, List.getD_cons_zero, List.getD_cons_succ, List.set_cons_zero, List.set_cons_succ, Nat.reduceAdd, Nat.reduceSub, Nat.reduceMul, List.replicate, evK_go, reduceIte, Nat.reduceEqDiff, Nat.reduceLT, List.foldl_cons, List.foldl_nil]
      · refine TmLe.wkn ?_
        simp (implicitDefEqProofs := false) (dsimp := false) only [slots, tmLe_nil, tmLe_j, tmLe_s, List.set_cons_zero, List.set_cons_succ, Nat.reduceAdd, Nat.reduceSub, Nat.reduceMul, List.replicate, evK_go, reduceIte, Nat.reduceEqDiff, Nat.reduceLT, List.foldl_cons, List.foldl_nil]
      · rintro ys x st hpx ⟨P, rfl, hrs, hok', hlen', hseen', hun'⟩
        obtain ⟨P', c, hP, rfl, hcc⟩ := prefix_map hpx
        obtain rfl : P = P' := ofNat_inj hP
        have hcm := hcc.subset (by simp : c ∈ P ++ [c])
        have hcr : c < right := (hsd _ ((hg i c).1 hcm)).2
        have hch : c < st.has.length := by omega
        obtain ⟨rs, hrs0⟩ := hcc
        have hthis := hrs (c :: rs) (by rw [← hrs0]; simp)
        have hnext' : ∀ st' : KS, res = tryL (tryF next m) i rs st' → ∀ rs', P ++ [c] ++ rs' = pts (next.getD i default) → res = tryL (tryF next m) i rs' st' := fun st' h rs' h' => by
          have : rs' = rs := List.append_cancel_left (h'.trans hrs0.symm)
          rw [this]; exact h
        have hc64 : c < 64 := by omega
        have hc64' : c ≤ 64 := by omega
        obtain ⟨has, seen⟩ := st
        simp only at hok' hlen' hseen' hun' hch
        simp (implicitDefEqProofs := false) (dsimp := false) only [slots, hasS_call, hseen', hc64', List.getD_cons_succ, ↓nthK_H, ↓nthH_zero, ↓aw_cond, ↓aw_seq, ↓aw_block, ↓aw_reg, ↓Qseq_n, ↓ops_nil, ↓ops_cons, ↓eval_tmp, ↓eval_func, ↓put_some, ↓bK_b, ↓ldK_p, ↓op_move, ↓op_assign, ↓op_load, ↓op_call, isD_d, ↓fnK_f, ↓call_H, ↓callK_H, ↓allT_nil, ↓allT_cons, ↓td_d, ↓vcells_c, ↓Qn_n, ↓ty87, List.getD_cons_zero, List.getD_cons_succ, List.set_cons_zero, List.set_cons_succ, List.cons_append, List.nil_append, List.append_nil, List.all_cons, List.all_nil, Bool.true_and, Bool.and_self, Bool.true_or, Nat.reduceAdd, Nat.reduceSub, Nat.reduceMul, List.replicate, evK_go, reduceIte, Nat.reduceEqDiff, Nat.reduceLT, and_self, true_and, List.foldl_cons, List.foldl_nil]
        refine OrH.l (OrH.l (cdK_split (fun hb => ?_) (fun hb => ?_)))
        · simp (implicitDefEqProofs := false) (dsimp := false) only [QB_n, QB_x, backN_mk, ↓aw_seq, ↓aw_exit, ↓aw_ret, ↓aw_reg, ↓Qseq_n, ↓Qseq_x, ↓Qblk_x, ↓ops_nil, ↓ops_cons, ↓eval_tmp, ↓eval_bool, ↓put_none, ↓op_store, Nat.reduceAdd, Nat.reduceSub, Nat.reduceMul, evK_go, reduceIte, Nat.reduceEqDiff, Nat.reduceLT]
          refine ⟨⟨has, seen⟩, ⟨P ++ [c], by simp, hnext' _ (by rw [hthis]; show (if _ then _ else _) = _; rw [if_pos hb]), hok', hlen', hseen', hun'⟩, ?_⟩
          exact Wkn.refl _
        · have hor : seen ||| 2 ^ c < 2 ^ 64 := Nat.or_lt_two_pow hseen' (Nat.pow_lt_pow_right (by omega) hc64)
          rcases Int.lt_or_le (has.getD c default) 0 with hneg | hpos
          · have hd : decide (has.getD c default < 0) = true := decide_eq_true hneg
            simp (implicitDefEqProofs := false) (dsimp := false) only [with_call, hseen', hc64, hlen', hcr, hd, end0, end1, endS1, QB_r, QM_r, backN_mk, ↓cdK_true, ↓gdK_f, ↓gval_mk, ↓gvL_zero, ↓gvL_succ, ↓optK_some, ↓rwK_mk_, ↓atK_H, ↓atH_map, ↓nthK_H, ↓nthH_zero, ↓aw_cond, ↓aw_seq, ↓aw_ret, ↓aw_skip, ↓aw_reg, ↓aw_draw, ↓Qseq_n, ↓Qseq_r, ↓Qblk_r, ↓ops_nil, ↓ops_cons, ↓eval_tmp, ↓eval_int, ↓eval_bool, ↓eval_func, ↓put_some, ↓put_none, ↓bK_b, ↓iK_i, ↓dK_d, ↓ev_move, ↓ev_pick, ↓ev_load, ↓ev_bin, ↓ev_ia, ↓binE_i, ↓bi_lss, ↓ldK_p, ↓ldK_e, ↓iaK_o, ↓op_move, ↓op_load, ↓op_ia, ↓op_call, ↓op_store, isD_d, ↓fnK_f, ↓call_H, ↓callK_H, ↓allT_nil, ↓allT_cons, ↓td_d, ↓draw_H, ↓h_nil, ↓h_cons, ↓ldH_n, ↓ldH_g, ↓q_move, ↓q_pick, ↓q_load, ↓q_bin, ↓q_ia, ↓il_move, ↓il_pick, ↓il_load, ↓il_bin, ↓il_ia, ↓il_call, ↓setBox_mk, ↓setRow_mk, ↓st_tm, ↓st_bx, ↓st_rw, ↓st_gh, ↓row_sz, ↓row_xs, ↓cells_c, ↓vcells_c, ↓vcells_o, ↓one_i, ↓one_b, ↓vone_d, ↓st_p, ↓st_e, ↓ty3, ↓ty4, ↓ty28, ↓sl28, ↓ty87, List.getD_cons_zero, List.getD_cons_succ, List.set_cons_zero, List.set_cons_succ, List.append_nil, List.length_cons, List.length_nil, List.all_cons, List.all_nil, Bool.true_and, Bool.and_self, Bool.true_or, Nat.reduceAdd, Nat.reduceSub, Nat.reduceMul, Nat.zero_add, Int.toNat_natCast, evK_go, reduceIte, Nat.reduceEqDiff, Nat.reduceLT, and_self, true_and, Int.zero_add, Int.ofNat_lt, Int.natCast_nonneg]
            (repeat refine OrH.l ?_)
            refine ⟨DrawH.of follows_mixed (by kernel_rfl), ?_⟩
            have hval : res = (true, ⟨has.set c (i : Int), seen ||| 2 ^ c⟩) := by
              rw [hthis]
              show (if _ then _ else (if _ then _ else _)) = _
              rw [if_neg (by rw [hb]; decide), if_pos hneg]
            refine ret_of rfl (end1 _ _ _ _ _) ⟨rfl, ?_, ⟨.d (I .i64 (i : Int)), .d (Bo true), ?_⟩, ?_⟩
            · rw [hval]; try rfl
            · rw [hval]; try rfl
            · rw [hval]
              simp (implicitDefEqProofs := false) (dsimp := false) only [tR, List.map_set]
          · obtain ⟨x, hx2, hx1, hx3⟩ := hok'.nat hcr (by omega)
            have hd : decide (has.getD c default < 0) = false := by rw [decide_eq_false_iff_not]; omega
            simp (implicitDefEqProofs := false) (dsimp := false) only [with_call, hseen', hc64, hlen', hcr, hd, ty93, ↓cdK_false, ↓gdK_f, ↓gval_mk, ↓gvL_zero, ↓gvL_succ, ↓optK_some, ↓rwK_mk_, ↓atK_H, ↓atH_map, ↓nthK_H, ↓nthH_zero, ↓aw_seq, ↓aw_skip, ↓aw_reg, ↓aw_draw, ↓Qseq_n, ↓ops_nil, ↓ops_cons, ↓eval_tmp, ↓eval_int, ↓eval_func, ↓put_some, ↓put_none, ↓iK_i, ↓ev_move, ↓ev_load, ↓ev_bin, ↓ev_ia, ↓binE_i, ↓bi_lss, ↓ldK_p, ↓ldK_e, ↓iaK_o, ↓op_move, ↓op_load, ↓op_call, ↓op_store, isD_d, ↓fnK_f, ↓call_H, ↓callK_H, ↓callKQ_H, ↓allT_nil, ↓allT_cons, ↓td_d, ↓draw_H, ↓h_cons, ↓ldH_n, ↓ldH_g, ↓q_call, ↓q_move, ↓q_load, ↓q_bin, ↓q_ia, ↓il_move, ↓il_load, ↓il_bin, ↓il_ia, ↓il_call, ↓setBox_mk, ↓st_tm, ↓st_bx, ↓row_sz, ↓row_xs, ↓cells_c, ↓vcells_c, ↓vcells_o, ↓one_i, ↓vone_d, ↓st_p, ↓ty3, ↓ty28, ↓sl28, ↓ty87, List.getD_cons_zero, List.getD_cons_succ, List.set_cons_zero, List.set_cons_succ, List.cons_append, List.nil_append, List.append_nil, List.length_cons, List.length_nil, List.all_cons, List.all_nil, Bool.true_and, Bool.and_self, Bool.true_or, Nat.reduceAdd, Nat.reduceSub, Nat.reduceMul, Nat.zero_add, Int.toNat_natCast, evK_go, reduceIte, Nat.reduceEqDiff, Nat.reduceLT, and_self, true_and, Int.zero_add, Int.ofNat_lt, Int.natCast_nonneg]
            refine OrH.l (OrH.l (OrH.r (draw_n 11 follows_mixed (by kernel_rfl) ?_)))
            simp (implicitDefEqProofs := false) (dsimp := false) only [hn_n, hn_g, hn_z, cells_fp, hcr, hlen', hd, ty93, ↓cdK_false, ↓gdK_f, ↓gval_mk, ↓gvL_zero, ↓gvL_succ, ↓optK_some, ↓rwK_mk_, ↓atK_H, ↓atH_map, ↓nthK_H, ↓nthH_zero, ↓ops_guard, ↓eval_tmp, ↓eval_int, ↓put_some, ↓iK_i, ↓ev_move, ↓ev_load, ↓ev_bin, ↓ev_ia, ↓binE_i, ↓bi_lss, ↓ldK_p, ↓ldK_e, ↓iaK_o, ↓op_call, isD_d, isD_fp, ↓fnK_f, ↓call_H, ↓callK_H, ↓allT_nil, ↓allT_cons, ↓td_d, ↓boxK_d, ↓td_fp, ↓bq_nil, ↓bq_cons, ↓q_move, ↓q_load, ↓q_bin, ↓q_ia, ↓st_tm, ↓row_sz, ↓row_xs, ↓cells_c, ↓cells_l, ↓vcells_o, ↓ty3, ↓ty28, ↓sl28, List.getD_cons_zero, List.getD_cons_succ, List.set_cons_zero, List.set_cons_succ, List.cons_append, List.nil_append, List.all_cons, List.all_nil, Bool.and_true, Bool.true_and, Bool.and_self, Nat.reduceAdd, Nat.reduceSub, Nat.reduceMul, Nat.zero_add, Int.toNat_natCast, evK_go, reduceIte, Nat.reduceEqDiff, Nat.reduceLT, and_self, true_and, and_true, Int.zero_add, Int.ofNat_lt, Int.natCast_nonneg]
            have hb' : seen.testBit c = false := hb
            have hunl : unseen right (seen ||| 2 ^ c) < m := by have := unseen_lt hcr hb'; omega
            have hrest' : ∀ y ∈ rest ++ [V.d (I .i64 (i : Int)), .d (Bo false)], ∀ z ∈ y.cells, z.below ((rest ++ [V.d (I .i64 (i : Int)), .d (Bo false)]).length + 4) := by
              intro y hy z hz
              rcases List.mem_append.1 hy with hy | hy
              · have h1 := hrest y hy z hz
                rw [List.length_append]
                cases z with
                | p b sub => show _ < _; have h1 : b < rest.length + 4 := h1; omega
                | fp fn ps => intro b hb; have h1 : b < rest.length + 4 := h1 b hb; omega
                | _ => trivial
              · simp (implicitDefEqProofs := false) (dsimp := false) only [List.mem_cons, List.not_mem_nil, or_false] at hy
                rcases hy with rfl | rfl
                · simp [V.cells, I] at hz; subst hz; trivial
                · simp [V.cells, Bo] at hz; subst hz; trivial
            have hts' := hts m x ⟨has, seen ||| 2 ^ c⟩ hok' hunl
            have hval : res = match tryF next m x ⟨has, seen ||| 2 ^ c⟩ with
                | (true, s2) => (true, (⟨s2.has.set c (i : Int), s2.seen⟩ : KS))
                | (false, s2) => tryL (tryF next m) i rs s2 := by
              rw [hthis]
              show (if _ then _ else (if _ then _ else _)) = _
              rw [if_neg (by rw [hb]; decide), if_neg (by show ¬ has.getD c default < 0; omega)]
              show (match tryF next m (has.getD c default).toNat ⟨has, seen ||| 2 ^ c⟩ with
                | (true, s2) => (true, (⟨s2.has.set c (i : Int), s2.seen⟩ : KS))
                | (false, s2) => tryL (tryF next m) i rs s2) = _
              rw [hx1, Int.toNat_natCast]
            rw [hx1]
            refine OrH.r (callM2 (fun gh => ih x ⟨has, seen ||| 2 ^ c⟩ (rest ++ [.d (I .i64 (i : Int)), .d (Bo false)]) restR gh hx2 hok' hlen' hor hunl hrest') rfl rfl rfl rfl rfl ?_)
            rintro d bx' rw' gh' ⟨rfl, rfl, rfl, rfl⟩
            refine ⟨rfl, ?_⟩
            generalize tryF next m x ⟨has, seen ||| 2 ^ c⟩ = r at hts' hval ⊢
            obtain ⟨b, has2, seen2⟩ := r
            simp only at hts' hval ⊢
            cases b with
            | true =>
              simp only at hval
              have hlen2 : has2.length = right := by
                have := (hts'.yes rfl).1.len
                simp only at this
                omega
              simp (implicitDefEqProofs := false) (dsimp := false) only [tB, tR, hcr, end0, end1, endS1, QB_r, QM_r, backN_mk, ↓cdK_true, ↓cdK_false, ↓optK_some, ↓rwK_mk_, ↓nthK_H, ↓nthH_zero, ↓aw_cond, ↓aw_seq, ↓aw_ret, ↓aw_reg, ↓Qseq_n, ↓Qseq_r, ↓Qblk_r, ↓ops_nil, ↓ops_cons, ↓eval_tmp, ↓eval_bool, ↓put_some, ↓put_none, ↓bK_b, ↓iK_i, ↓dK_d, ↓ldK_p, ↓iaK_o, ↓op_move, ↓op_pick, ↓op_load, ↓op_ia, ↓op_store, ↓setBox_mk, ↓setRow_mk, ↓st_bx, ↓st_rw, ↓st_gh, ↓row_sz, ↓row_xs, ↓cells_c, ↓vcells_c, ↓vcells_o, ↓one_i, ↓one_b, ↓vone_d, ↓st_p, ↓st_e, ↓ty3, ↓ty4, ↓ty28, ↓sl28, List.getD_cons_zero, List.getD_cons_succ, List.set_cons_zero, List.set_cons_succ, List.cons_append, List.nil_append, List.length_cons, List.length_nil, List.all_cons, List.all_nil, Bool.true_and, Bool.and_self, Nat.reduceAdd, Nat.reduceSub, Nat.reduceMul, Nat.zero_add, Int.toNat_natCast, evK_go, reduceIte, Nat.reduceEqDiff, Nat.reduceLT, and_self, true_and, Int.zero_add, List.drop_zero, List.take_succ_cons, List.drop_succ_cons, List.take_zero, Int.ofNat_lt, Int.natCast_nonneg]
              refine ret_of rfl (end1 _ _ _ _ _) ⟨rfl, ?_, ⟨.d (I .i64 (i : Int)), .d (Bo true), ?_⟩, ?_⟩
              · rw [hval]; try rfl
              · rw [hval]; try rfl
              · rw [hval]
                simp (implicitDefEqProofs := false) (dsimp := false) only [List.map_set]
            | false =>
              simp only at hval
              simp (implicitDefEqProofs := false) (dsimp := false) only [tB, tR, QB_n, backN_mk, ↓cdK_false, ↓aw_cond, ↓aw_skip, ↓Qseq_n, ↓Qblk_n, ↓ops_nil, ↓ops_cons, ↓eval_tmp, ↓put_some, ↓bK_b, ↓op_pick, List.getD_cons_zero, List.getD_cons_succ, List.set_cons_zero, List.set_cons_succ, List.cons_append, List.nil_append, List.length_cons, List.length_nil, Nat.reduceAdd, Nat.reduceSub, Nat.reduceMul, Nat.zero_add, evK_go, reduceIte, Nat.reduceEqDiff, Nat.reduceLT, Int.zero_add, List.drop_zero, List.take_succ_cons, List.drop_succ_cons, List.take_zero]
              have hno := hts'.no rfl
              simp only at hno
              have hun2 : unseen right seen2 ≤ unseen right seen := unseen_le fun j hj => hts'.mono j (by show (seen ||| 2 ^ c).testBit j = true; rw [Nat.testBit_or, hj]; rfl)
              refine ⟨⟨has2, seen2⟩, ⟨P ++ [c], by simp, hnext' _ hval, by rw [hno.1]; exact hok', by rw [hno.1]; exact hlen', hts'.lt hor, by show unseen right seen2 < m + 1; omega⟩, ?_⟩
              exact Wkn.refl _
      · rintro st ⟨P, hP, hrs, hok', hlen', hseen', hun'⟩
        have hP : P = pts (next.getD i default) := (ofNat_inj hP).symm
        have hthis := hrs [] (by rw [hP]; simp)
        simp (implicitDefEqProofs := false) (dsimp := false) only [slots, endS1, end1, QM_r, ↓aw_seq, ↓aw_ret, ↓aw_reg, ↓Qseq_n, ↓Qblk_n, ↓ops_nil, ↓ops_cons, ↓eval_tmp, ↓eval_bool, ↓put_none, ↓op_store, ↓setBox_mk, ↓st_bx, ↓st_rw, ↓st_gh, ↓vcells_c, ↓one_b, ↓vone_d, ↓st_p, ↓ty4, List.getD_cons_zero, List.getD_cons_succ, List.set_cons_zero, List.set_cons_succ, List.length_cons, List.length_nil, List.all_cons, List.all_nil, Bool.true_and, Bool.and_self, Nat.reduceAdd, Nat.reduceSub, Nat.reduceMul, Nat.zero_add, List.replicate, evK_go, reduceIte, Nat.reduceEqDiff, Nat.reduceLT, and_self, true_and, Int.zero_add, List.foldl_cons, List.foldl_nil]
        refine ret_of rfl (end1 _ _ _ _ _) ⟨?_, ⟨.d (I .i64 (i : Int)), .d (Bo false), ?_⟩, ?_⟩
        · rw [hthis]; try rfl
        · rw [hthis]; try rfl
        · rw [hthis]; try rfl
end Go.Proofs

namespace Go.Proofs
open Go.Aw
set_option linter.unusedSimpArgs false
set_option maxRecDepth 10000
def kuhnK (left right : Nat) (l : List (Nat × Nat)) (k : Nat) : List Int := (List.range k).foldl (kuhnI (outS (max left 1) l) right) (List.replicate right (-1))
theorem kuhnK_ok {left right : Nat} {l : List (Nat × Nat)} (hl : Sides left right l) (hr : right ≤ 64) (k : Nat) : HasOK right left l (kuhnK left right l k) := by
  have : ∀ k, ∃ F D, KI left right l k (kuhnK left right l k) F D := by
    intro k
    induction k with
    | zero =>
      refine ⟨fun _ => False, fun _ => False, ⟨⟨by simp [kuhnK], fun j hj => .inl ?_⟩, fun y => ⟨fun h => by omega, fun _ => ?_⟩, fun f hf => hf.elim, fun f hf => hf.elim, fun j hj => hj.elim⟩⟩
      · show (List.replicate right (-1 : Int)).getD j default = -1
        rw [List.getD_eq_getElem?_getD, List.getElem?_replicate, if_pos hj]; rfl
      · show (List.replicate right (-1 : Int)).count (y : Int) = 0
        rw [List.count_eq_zero]
        intro h
        have := (List.mem_replicate.1 h).2
        omega
    | succ k ih =>
      obtain ⟨F, D, h⟩ := ih
      unfold kuhnK
      rw [range_foldl]
      exact h.step hl hr (outS_sides hl hr)
  obtain ⟨_, _, h⟩ := this k
  exact h.ok
theorem kuhnK_succ (left right : Nat) (l : List (Nat × Nat)) (k : Nat) : kuhnK left right l (k + 1) = (tryF (outS (max left 1) l) (right + 1) k ⟨kuhnK left right l k, 0⟩).2.has := range_foldl _ _ _
def negI (right k : Nat) : List Int := List.replicate k (-1 : Int) ++ List.replicate (right - k) 0
theorem negI_len {right k : Nat} (h : k ≤ right) : (negI right k).length = right := by simp [negI]; omega
theorem negI_set {right k : Nat} (h : k < right) : (negI right k).set k (-1) = negI right (k + 1) := by
  unfold negI
  rw [List.set_append_right _ _ (by simp), List.length_replicate, Nat.sub_self, show right - k = (right - (k + 1)) + 1 by omega, List.replicate_succ, List.set_cons_zero, List.replicate_succ', List.append_assoc]; rfl
theorem negI_end (right : Nat) : negI right right = List.replicate right (-1) := by simp [negI]
theorem negI_zero (right : Nat) : (negI right 0).map (I .i64) = List.replicate right (I .i64 0) := by simp [negI]
theorem pairs_spec (left right : Nat) (l : List (Nat × Nat)) (hpre : left ≤ 8 ∧ right ≤ 8 ∧ l.length < 2 ^ 62 ∧ Sides left right l) : FnR Try.prog 68 [I .i64 (left : Int), I .i64 (right : Int), .l (l.map lnN)] 1 ((kuhn left right l).map (I .i64)) := by
  obtain ⟨hl8, hr8, hl62, hs⟩ := hpre
  have hout : max left 1 ≤ 64 ∧ l.length < 2 ^ 62 ∧ ∀ p ∈ l, p.1 < max left 1 ∧ p.2 < 64 := ⟨by omega, hl62, fun p hp => by have := hs p hp; omega⟩
  have hg := outS_sides hs (by omega : right ≤ 64)
  have hlt : ∀ x ∈ outS (max left 1) l, x < 2 ^ 64 := outS_lt _ _ fun p hp => by have := hs p hp; omega
  have hmax : (if 1 > (left : Int) then (1 : Int) else (left : Int)) = ((max left 1 : Nat) : Int) := by split <;> omega
  have htry := try_spec hr8 hl8 hg hlt hs
  refine FnR.go Try.func68 rfl rfl Try.results68 Try.ntmps68 ?_
  simp (implicitDefEqProofs := false) (dsimp := false) only [↓aw_seq, ↓aw_reg, ↓Qseq_n, ↓ops_nil, ↓ops_cons, ↓eval_tmp, ↓eval_int, ↓eval_nil, ↓eval_func, ↓put_some, ↓iK_i, ↓op_move, ↓op_assign, ↓op_max, ↓op_call, isD_d, ↓fnK_f, ↓call_H, ↓callK_H, ↓allT_nil, ↓allT_cons, ↓td_d, List.getD_cons_zero, List.getD_cons_succ, List.set_cons_zero, List.set_cons_succ, List.cons_append, List.nil_append, List.append_nil, List.map_cons, List.map_nil, List.length_cons, List.length_nil, List.all_cons, List.all_nil, Bool.true_and, Bool.and_self, Nat.reduceAdd, Nat.reduceSub, Nat.reduceMul, Nat.zero_add, List.replicate, evK_go, reduceIte, Nat.reduceEqDiff, Nat.reduceLT, and_self, true_and, Int.zero_add]
  simp (implicitDefEqProofs := false) (dsimp := false) only [hmax, out_callD, hout, ↓optK_some, ↓rwK_mk_, ↓nthK_H, ↓nthH_zero, ↓aw_seq, ↓aw_block, ↓aw_loop, ↓aw_reg, ↓Qseq_n, ↓ops_nil, ↓ops_cons, ↓eval_tmp, ↓eval_int, ↓put_some, ↓put_none, ↓iK_i, ↓dK_d, ↓lenK_o, ↓ldK_p, ↓op_move, ↓op_load, ↓op_len, ↓op_alloc, ↓op_store, ↓op_make, ↓addBox_mk, ↓addRow_mk, ↓setBox_mk, ↓st_bx, ↓st_rw, ↓cells_c, ↓vcells_l, ↓vcells_nl, ↓vcells_o, ↓one_i, ↓one_l, ↓vone_d, ↓vone_o, constV_i, constV_n, ↓st_p, ↓mk_, ↓vsz_int, ↓ty3, ↓zb3, ↓ty28, ↓sl28, ↓zb28, ↓ty84, ↓zb84, List.getD_cons_zero, List.getD_cons_succ, List.set_cons_zero, List.set_cons_succ, List.cons_append, List.nil_append, List.length_cons, List.length_nil, List.all_cons, List.all_nil, Bool.and_true, Bool.true_and, Bool.and_self, Bool.true_or, Nat.reduceAdd, Nat.reduceSub, Nat.reduceMul, Nat.zero_add, Int.toNat_natCast, evK_go, reduceIte, Nat.reduceEqDiff, Nat.reduceLT, and_self, true_and, and_true, Int.zero_add, Int.natCast_nonneg]
  (repeat refine OrH.l ?_)
  refine ⟨hout.2.2, ?_⟩
  (repeat refine OrH.l ?_)
  refine ⟨⟨by omega, by decide⟩, ?_⟩
  refine loopW (fun k : Nat => { tm := slots 38 [(0, .d (I .i64 (left : Int))), (7, .p 0 0), (8, .p 1 0), (20, .d (I .i64 (right : Int))), (21, .d (I .i64 k))], bx := [.d (.l ((outS (max left 1) l).map U)), .o 0 0 right], rw := [some ⟨1, (negI right k).map (I .i64)⟩] })
    (fun k => k ≤ right) (fun k => right - k) 0 (by simp) ?_ ?_
  · refine Wkn.of [0, 1] [some 0] ?_
    simp (implicitDefEqProofs := false) (dsimp := false) only [negI_zero, ↓vcells_l, ↓vcells_o, List.getD_cons_zero, List.getD_cons_succ, List.set_cons_zero, List.set_cons_succ, List.length_cons, List.length_nil, Bool.and_self, Nat.reduceAdd, Nat.reduceSub, Nat.reduceMul, Nat.zero_add, List.replicate, evK_go, reduceIte, Nat.reduceEqDiff, Nat.reduceLT, and_self, Int.zero_add, List.foldl_cons, List.foldl_nil, Int.cast_ofNat_Int, slots, wkL_nil, wkL_cons, wkB_nil, wkB_cons, wkR_nil, wkR_some, wkV_j, wkV_d, wkV_o, wkV_p, frz_d, oK_zs, pK_z, pK_s, reduceCtorEq]
  · intro k hk
    simp (implicitDefEqProofs := false) (dsimp := false) only [slots, ↓aw_cond, ↓aw_seq, ↓aw_reg, ↓Qseq_n, ↓ops_nil, ↓ops_cons, ↓eval_tmp, ↓put_some, ↓bK_b, ↓binE_i, ↓bi_lss, ↓op_bin, List.getD_cons_zero, List.getD_cons_succ, List.set_cons_zero, List.set_cons_succ, Nat.reduceAdd, Nat.reduceSub, Nat.reduceMul, List.replicate, evK_go, reduceIte, Nat.reduceEqDiff, Nat.reduceLT, List.foldl_cons, List.foldl_nil, Int.ofNat_lt]
    refine cdK_dec (fun h => ?_) (fun h => ?_)
    · have hlk := negI_len hk
      have hset := negI_set h
      simp (implicitDefEqProofs := false) (dsimp := false) only [h, ↓optK_some, ↓rwK_mk_, ↓nthK_H, ↓nthH_zero, ↓aw_seq, ↓aw_block, ↓aw_skip, ↓aw_reg, ↓Qseq_n, ↓Qblk_n, ↓ops_nil, ↓ops_cons, ↓eval_tmp, ↓eval_int, ↓put_some, ↓put_none, ↓iK_i, ↓dK_d, ↓binE_i, ↓bi_add, ↓in_i64, ↓ldK_p, ↓iaK_o, ↓op_move, ↓op_assign, ↓op_load, ↓op_bin, ↓op_ia, ↓op_store, ↓setRow_mk, ↓row_sz, ↓row_xs, ↓cells_c, ↓vcells_o, ↓one_i, ↓st_e, ↓ty3, ↓ty28, ↓sl28, List.getD_cons_zero, List.getD_cons_succ, List.set_cons_zero, List.set_cons_succ, List.length_cons, List.length_nil, List.all_cons, List.all_nil, Bool.true_and, Bool.and_self, Nat.reduceAdd, Nat.reduceSub, Nat.reduceMul, Nat.zero_add, Int.toNat_natCast, evK_go, reduceIte, decide_true, Nat.reduceEqDiff, Nat.reduceLT, and_self, true_and, Int.zero_add, Int.ofNat_lt, Int.natCast_nonneg]
      refine ⟨by omega, k + 1, by omega, by omega, ?_⟩
      refine Wkn.of [0, 1] [some 0] ?_
      simp (implicitDefEqProofs := false) (dsimp := false) only [← hset, List.map_set, ↓vcells_l, ↓vcells_o, List.getD_cons_zero, List.getD_cons_succ, List.set_cons_zero, List.set_cons_succ, List.length_cons, List.length_nil, Bool.and_self, Nat.reduceAdd, Nat.reduceSub, Nat.reduceMul, Nat.zero_add, List.replicate, evK_go, reduceIte, Nat.reduceEqDiff, Nat.reduceLT, and_self, Int.zero_add, List.foldl_cons, List.foldl_nil, Int.cast_ofNat_Int, Int.natCast_add, slots, wkL_nil, wkL_cons, wkB_nil, wkB_cons, wkR_nil, wkR_some, wkV_j, wkV_d, wkV_o, wkV_p, frz_d, oK_zs, pK_z, pK_s, reduceCtorEq]
    · obtain rfl : k = right := by omega
      simp (implicitDefEqProofs := false) (dsimp := false) only [negI_end, ↓aw_seq, ↓aw_block, ↓aw_exit, ↓aw_loop, ↓aw_reg, ↓Qseq_n, ↓Qseq_x, ↓Qblk_x, ↓ops_nil, ↓ops_cons, ↓eval_tmp, ↓eval_int, ↓put_some, ↓op_move, List.getD_cons_zero, List.set_cons_zero, List.set_cons_succ, Nat.reduceAdd, Nat.reduceSub, Nat.reduceMul, evK_go, reduceIte, decide_false, Nat.reduceEqDiff, Nat.reduceLT, Nat.lt_irrefl]
      refine loopW (fun i : Nat => { tm := slots 38 [(7, .p 0 0), (8, .p 1 0), (28, .d (I .i64 (left : Int))), (29, .d (I .i64 i))], bx := [.d (.l ((outS (max left 1) l).map U)), .o 0 0 k], rw := [some ⟨1, (kuhnK left k l i).map (I .i64)⟩] })
        (fun i => i ≤ left) (fun i => left - i) 0 (by simp) ?_ ?_
      · refine Wkn.of [0, 1] [some 0] ?_
        simp (implicitDefEqProofs := false) (dsimp := false) only [kuhnK, List.range_zero, List.foldl_nil, ↓vcells_l, ↓vcells_o, List.getD_cons_zero, List.getD_cons_succ, List.set_cons_zero, List.set_cons_succ, List.length_cons, List.length_nil, Bool.and_self, Nat.reduceAdd, Nat.reduceSub, Nat.reduceMul, Nat.zero_add, List.replicate, evK_go, reduceIte, Nat.reduceEqDiff, Nat.reduceLT, and_self, Int.zero_add, List.foldl_cons, List.foldl_nil, Int.cast_ofNat_Int, slots, wkL_nil, wkL_cons, wkB_nil, wkB_cons, wkR_nil, wkR_some, wkV_j, wkV_d, wkV_o, wkV_p, frz_d, oK_zs, pK_z, pK_s, reduceCtorEq]
      · intro i hi
        have hok := kuhnK_ok hs (by omega) i
        simp (implicitDefEqProofs := false) (dsimp := false) only [slots, ↓aw_cond, ↓aw_seq, ↓aw_reg, ↓Qseq_n, ↓ops_nil, ↓ops_cons, ↓eval_tmp, ↓put_some, ↓bK_b, ↓binE_i, ↓bi_lss, ↓op_bin, List.getD_cons_zero, List.getD_cons_succ, List.set_cons_zero, List.set_cons_succ, Nat.reduceAdd, Nat.reduceSub, Nat.reduceMul, List.replicate, evK_go, reduceIte, Nat.reduceEqDiff, Nat.reduceLT, List.foldl_cons, List.foldl_nil, Int.ofNat_lt]
        refine cdK_dec (fun h' => ?_) (fun h' => ?_)
        · simp (implicitDefEqProofs := false) (dsimp := false) only [ty93, zb93, cells_fp, ↓nthK_H, ↓nthH_zero, ↓aw_seq, ↓aw_block, ↓aw_skip, ↓aw_reg, ↓Qseq_n, ↓ops_nil, ↓ops_cons, ↓eval_tmp, ↓eval_int, ↓put_some, ↓put_none, ↓capsK_nil, ↓capsK_cons, ↓ldK_p, ↓op_move, ↓op_assign, ↓op_load, ↓op_func, ↓op_call, ↓op_alloc, ↓op_store, isD_d, isD_fp, ↓fnK_f, ↓call_H, ↓callK_H, ↓allT_nil, ↓allT_cons, ↓td_d, ↓boxK_d, ↓td_fp, ↓bq_nil, ↓bq_cons, ↓addBox_mk, ↓setBox_mk, ↓st_bx, ↓cells_c, ↓cells_l, ↓vcells_c, ↓one_i, ↓vone_d, constV_i, ↓st_p, ↓ty87, ↓zb87, List.getD_cons_zero, List.getD_cons_succ, List.set_cons_zero, List.set_cons_succ, List.cons_append, List.nil_append, List.map_cons, List.map_nil, List.length_cons, List.length_nil, List.all_cons, List.all_nil, Bool.and_true, Bool.true_and, Bool.and_self, Nat.reduceAdd, Nat.reduceSub, Nat.reduceMul, Nat.zero_add, evK_go, reduceIte, Nat.reduceEqDiff, Nat.reduceLT, and_self, true_and, and_true, Int.zero_add]
          have hun : unseen k 0 < k + 1 := by
            have := List.countP_le_length (p := fun j => !(0 : Nat).testBit j) (l := List.range k)
            simp (implicitDefEqProofs := false) (dsimp := false) only [List.length_range] at this
            unfold unseen; omega
          refine ⟨⟨rfl, rfl⟩, OrH.r (callM2 (fun gh => htry (k + 1) i ⟨kuhnK left k l i, 0⟩ [] [] gh h' hok hok.len (by show (0 : Nat) < 2 ^ 64; decide) hun (by simp)) rfl rfl rfl rfl rfl ?_)⟩
          rintro d bx' rw' gh' ⟨rfl, rfl, rfl, rfl⟩
          refine ⟨rfl, ?_⟩
          simp (implicitDefEqProofs := false) (dsimp := false) only [← kuhnK_succ, tB, tR, ↓aw_reg, ↓Qseq_n, ↓Qblk_n, ↓ops_nil, ↓ops_cons, ↓eval_tmp, ↓eval_int, ↓put_some, ↓binE_i, ↓bi_add, ↓in_i64, ↓op_move, ↓op_bin, ↓st_tm, ↓st_gh, List.getD_cons_zero, List.getD_cons_succ, List.set_cons_zero, List.set_cons_succ, List.append_nil, List.length_cons, List.length_nil, Nat.reduceAdd, Nat.reduceSub, Nat.reduceMul, Nat.zero_add, evK_go, reduceIte, Nat.reduceEqDiff, Nat.reduceLT, Int.zero_add, List.take_succ_cons, List.drop_succ_cons, List.take_nil, List.drop_nil]
          refine ⟨by omega, i + 1, by omega, by omega, ?_⟩
          refine Wkn.of [0, 1] [some 0] ?_
          simp (implicitDefEqProofs := false) (dsimp := false) only [↓vcells_l, ↓vcells_o, List.getD_cons_zero, List.getD_cons_succ, List.set_cons_zero, List.set_cons_succ, List.length_cons, List.length_nil, Bool.and_self, Nat.reduceAdd, Nat.reduceSub, Nat.reduceMul, Nat.zero_add, List.replicate, evK_go, reduceIte, Nat.reduceEqDiff, Nat.reduceLT, and_self, Int.zero_add, List.foldl_cons, List.foldl_nil, Int.cast_ofNat_Int, Int.natCast_add, slots, wkL_nil, wkL_cons, wkB_nil, wkB_cons, wkR_nil, wkR_some, wkV_j, wkV_d, wkV_o, wkV_p, frz_d, oK_zs, pK_z, pK_s, reduceCtorEq]
        · obtain rfl : i = left := by omega
          simp (implicitDefEqProofs := false) (dsimp := false) only [↓optK_some, ↓rwK_mk_, ↓nthK_H, ↓nthH_zero, ↓aw_seq, ↓aw_exit, ↓aw_ret, ↓aw_reg, ↓Qseq_n, ↓Qseq_x, ↓Qblk_x, ↓ops_nil, ↓ops_cons, ↓eval_tmp, ↓put_some, ↓ldK_p, ↓op_assign, ↓op_load, ↓row_sz, ↓row_xs, ↓vcells_o, ↓Qrow_r, ↓rowK_o, ↓ty28, List.getD_cons_zero, List.getD_cons_succ, List.set_cons_zero, List.set_cons_succ, Bool.true_and, Nat.reduceAdd, Nat.reduceSub, Nat.reduceMul, evK_go, reduceIte, decide_false, Nat.reduceEqDiff, Nat.reduceLT, true_and, Nat.lt_irrefl]
          have hok' : HasOK k i l (kuhnK i k l i) := hok
          exact List.take_of_length_le (by simp [hok'.len])
theorem pairs_call (left right : Nat) (l : List (Nat × Nat)) (pure : Bool) (σ : St) (dst : Option Tmp) (K : St → Prop) : CallH Try.prog 68 [I .i64 (left : Int), I .i64 (right : Int), .l (l.map lnN)] pure σ dst (.mk : Hid K) = OrH ((left ≤ 8 ∧ right ≤ 8 ∧ l.length < 2 ^ 62 ∧ Sides left right l) ∧ (pure || Res.flat (.row 1 ((kuhn left right l).map (I .i64)))) = true ∧ evK ((σ.addRow ⟨1, (kuhn left right l).map (I .i64)⟩).put dst (.o σ.rw.length 0 (List.length ((kuhn left right l).map (I .i64))))) (.mk : Hid K)) (.mk : Hid (CallH Try.prog 68 [I .i64 (left : Int), I .i64 (right : Int), .l (l.map lnN)] pure σ dst (.mk : Hid K))) := CallH.eqR (fun h => pairs_spec left right l h) pure σ dst K
theorem pairs_callD (left right : Nat) (l : List (Nat × Nat)) (pure : Bool) (σ : St) (dst : Option Tmp) (K : St → Prop) : CallH Try.prog 68 [I .i64 (left : Int), I .i64 (right : Int), .l (l.map lnN)] pure σ dst (.mk : Hid K) = OrH ((left ≤ 8 ∧ right ≤ 8 ∧ l.length < 2 ^ 62 ∧ Sides left right l) ∧ (pure || D.flat (.l ((kuhn left right l).map (I .i64)))) = true ∧ evK (σ.put dst (.d (.l ((kuhn left right l).map (I .i64))))) (.mk : Hid K)) (.mk : Hid (CallH Try.prog 68 [I .i64 (left : Int), I .i64 (right : Int), .l (l.map lnN)] pure σ dst (.mk : Hid K))) := CallH.eq (fun h => ((fun h => pairs_spec left right l h) h).data) pure σ dst K
theorem pairs_callDQ (left right : Nat) (l : List (Nat × Nat)) (pure : Bool) (C : V → Prop) : CallQ Try.prog 68 [I .i64 (left : Int), I .i64 (right : Int), .l (l.map lnN)] pure (.mk : Hid C) = OrH ((left ≤ 8 ∧ right ≤ 8 ∧ l.length < 2 ^ 62 ∧ Sides left right l) ∧ (pure || D.flat (.l ((kuhn left right l).map (I .i64)))) = true ∧ evK (V.d (.l ((kuhn left right l).map (I .i64)))) (.mk : Hid C)) (.mk : Hid (CallQ Try.prog 68 [I .i64 (left : Int), I .i64 (right : Int), .l (l.map lnN)] pure (.mk : Hid C))) := CallQ.eq (fun h => ((fun h => pairs_spec left right l h) h).data) pure C
end Go.Proofs

namespace Go.Proofs
open Go.Aw
set_option linter.unusedSimpArgs false
set_option maxRecDepth 10000
def sfL : List (Int × Int) := [(1, 2), (2, 1), (0, 1)]
theorem sf1_spec  : FnD Try.prog 43 [I .i64 3, .l [.s [I .i64 1, I .i64 2], .s [I .i64 2, I .i64 1], .s [I .i64 0, I .i64 1]]] (.t [.l [I .i64 0, I .i64 1, I .i64 1], erD 0]) := by
  have h := spartsS_spec 3 sfL (by decide)
  rw [show strongR 3 sfL = [0, 1, 1] by decide +kernel, show chk 3 sfL = 0 by decide +kernel] at h
  exact h
theorem sf1_call  (pure : Bool) (σ : St) (dst : Option Tmp) (K : St → Prop) : CallH Try.prog 43 [I .i64 3, .l [.s [I .i64 1, I .i64 2], .s [I .i64 2, I .i64 1], .s [I .i64 0, I .i64 1]]] pure σ dst (.mk : Hid K) = OrH ((pure || D.flat (.t [.l [I .i64 0, I .i64 1, I .i64 1], erD 0])) = true ∧ evK (σ.put dst (.d (.t [.l [I .i64 0, I .i64 1, I .i64 1], erD 0]))) (.mk : Hid K)) (.mk : Hid (CallH Try.prog 43 [I .i64 3, .l [.s [I .i64 1, I .i64 2], .s [I .i64 2, I .i64 1], .s [I .i64 0, I .i64 1]]] pure σ dst (.mk : Hid K))) := CallH.eq0 (sf1_spec ) pure σ dst K
theorem sf1_callQ  (pure : Bool) (C : V → Prop) : CallQ Try.prog 43 [I .i64 3, .l [.s [I .i64 1, I .i64 2], .s [I .i64 2, I .i64 1], .s [I .i64 0, I .i64 1]]] pure (.mk : Hid C) = OrH ((pure || D.flat (.t [.l [I .i64 0, I .i64 1, I .i64 1], erD 0])) = true ∧ evK (V.d (.t [.l [I .i64 0, I .i64 1, I .i64 1], erD 0])) (.mk : Hid C)) (.mk : Hid (CallQ Try.prog 43 [I .i64 3, .l [.s [I .i64 1, I .i64 2], .s [I .i64 2, I .i64 1], .s [I .i64 0, I .i64 1]]] pure (.mk : Hid C))) := CallQ.eq0 (sf1_spec ) pure C
theorem sf2_spec  : FnD Try.prog 59 [I .i64 3, .l [.s [I .i64 1, I .i64 2], .s [I .i64 2, I .i64 1], .s [I .i64 0, I .i64 1]]] (.t [.l [I .i64 0, I .i64 1, I .i64 1], .l [.s [I .i64 0, I .i64 1]], erD 0]) := by
  have h := fold_spec 3 sfL (by decide)
  rw [show foldO 3 sfL = [0, 1, 1] by decide +kernel, show foldL 3 sfL = [(0, 1)] by decide +kernel, show chk 3 sfL = 0 by decide +kernel] at h
  exact h
theorem sf2_call  (pure : Bool) (σ : St) (dst : Option Tmp) (K : St → Prop) : CallH Try.prog 59 [I .i64 3, .l [.s [I .i64 1, I .i64 2], .s [I .i64 2, I .i64 1], .s [I .i64 0, I .i64 1]]] pure σ dst (.mk : Hid K) = OrH ((pure || D.flat (.t [.l [I .i64 0, I .i64 1, I .i64 1], .l [.s [I .i64 0, I .i64 1]], erD 0])) = true ∧ evK (σ.put dst (.d (.t [.l [I .i64 0, I .i64 1, I .i64 1], .l [.s [I .i64 0, I .i64 1]], erD 0]))) (.mk : Hid K)) (.mk : Hid (CallH Try.prog 59 [I .i64 3, .l [.s [I .i64 1, I .i64 2], .s [I .i64 2, I .i64 1], .s [I .i64 0, I .i64 1]]] pure σ dst (.mk : Hid K))) := CallH.eq0 (sf2_spec ) pure σ dst K
theorem sf2_callQ  (pure : Bool) (C : V → Prop) : CallQ Try.prog 59 [I .i64 3, .l [.s [I .i64 1, I .i64 2], .s [I .i64 2, I .i64 1], .s [I .i64 0, I .i64 1]]] pure (.mk : Hid C) = OrH ((pure || D.flat (.t [.l [I .i64 0, I .i64 1, I .i64 1], .l [.s [I .i64 0, I .i64 1]], erD 0])) = true ∧ evK (V.d (.t [.l [I .i64 0, I .i64 1, I .i64 1], .l [.s [I .i64 0, I .i64 1]], erD 0])) (.mk : Hid C)) (.mk : Hid (CallQ Try.prog 59 [I .i64 3, .l [.s [I .i64 1, I .i64 2], .s [I .i64 2, I .i64 1], .s [I .i64 0, I .i64 1]]] pure (.mk : Hid C))) := CallQ.eq0 (sf2_spec ) pure C
theorem sf3_spec  : FnD Try.prog 44 [.l [I .i64 0, I .i64 1, I .i64 1], .l [I .i64 0, I .i64 1, I .i64 1]] (Bo true) := by
  have h := ints_spec [0, 1, 1] [0, 1, 1] (by decide)
  exact h
theorem sf3_call  (pure : Bool) (σ : St) (dst : Option Tmp) (K : St → Prop) : CallH Try.prog 44 [.l [I .i64 0, I .i64 1, I .i64 1], .l [I .i64 0, I .i64 1, I .i64 1]] pure σ dst (.mk : Hid K) = OrH ((pure || D.flat (Bo true)) = true ∧ evK (σ.put dst (.d (Bo true))) (.mk : Hid K)) (.mk : Hid (CallH Try.prog 44 [.l [I .i64 0, I .i64 1, I .i64 1], .l [I .i64 0, I .i64 1, I .i64 1]] pure σ dst (.mk : Hid K))) := CallH.eq0 (sf3_spec ) pure σ dst K
theorem sf3_callQ  (pure : Bool) (C : V → Prop) : CallQ Try.prog 44 [.l [I .i64 0, I .i64 1, I .i64 1], .l [I .i64 0, I .i64 1, I .i64 1]] pure (.mk : Hid C) = OrH ((pure || D.flat (Bo true)) = true ∧ evK (V.d (Bo true)) (.mk : Hid C)) (.mk : Hid (CallQ Try.prog 44 [.l [I .i64 0, I .i64 1, I .i64 1], .l [I .i64 0, I .i64 1, I .i64 1]] pure (.mk : Hid C))) := CallQ.eq0 (sf3_spec ) pure C
theorem sf4_spec  : FnD Try.prog 61 [.l [.s [I .i64 0, I .i64 1]], .l [.s [I .i64 0, I .i64 1]]] (Bo true) := by
  have h := elines_spec [(0, 1)] [(0, 1)] (by decide)
  exact h
theorem sf4_call  (pure : Bool) (σ : St) (dst : Option Tmp) (K : St → Prop) : CallH Try.prog 61 [.l [.s [I .i64 0, I .i64 1]], .l [.s [I .i64 0, I .i64 1]]] pure σ dst (.mk : Hid K) = OrH ((pure || D.flat (Bo true)) = true ∧ evK (σ.put dst (.d (Bo true))) (.mk : Hid K)) (.mk : Hid (CallH Try.prog 61 [.l [.s [I .i64 0, I .i64 1]], .l [.s [I .i64 0, I .i64 1]]] pure σ dst (.mk : Hid K))) := CallH.eq0 (sf4_spec ) pure σ dst K
theorem sf4_callQ  (pure : Bool) (C : V → Prop) : CallQ Try.prog 61 [.l [.s [I .i64 0, I .i64 1]], .l [.s [I .i64 0, I .i64 1]]] pure (.mk : Hid C) = OrH ((pure || D.flat (Bo true)) = true ∧ evK (V.d (Bo true)) (.mk : Hid C)) (.mk : Hid (CallQ Try.prog 61 [.l [.s [I .i64 0, I .i64 1]], .l [.s [I .i64 0, I .i64 1]]] pure (.mk : Hid C))) := CallQ.eq0 (sf4_spec ) pure C
theorem sfact_spec  : FnD Try.prog 42 [] (Bo true) := by
  refine FnD.go Try.func42 rfl rfl Try.results42 Try.ntmps42 ?_
  simp (implicitDefEqProofs := false) (dsimp := false) only [↓aw_seq, ↓aw_reg, ↓Qseq_n, ↓ops_nil, ↓ops_cons, ↓eval_tmp, ↓eval_int, ↓eval_bool, ↓eval_func, ↓put_some, ↓dK_d, ↓op_move, ↓op_assign, ↓op_build, ↓op_call, isD_d, ↓fnK_f, ↓call_H, ↓callK_H, ↓allT_nil, ↓allT_cons, ↓allD_nil, ↓allD_cons, ↓td_d, ↓cells_c, ↓cells_s, ↓one_i, ↓bs_, ↓op_bs, ↓bsL_f, ↓stored_mk, ↓sl_nil, ↓sl_cons, ↓sT_assign, ↓sT_build, ↓sT_bs, ↓vsz_agg, ↓inO_3, ↓fm_nil, ↓fm_cons, ↓sl22, ↓ty35, ↓zb35, ↓bd35, List.getD_cons_zero, List.getD_cons_succ, List.set_cons_zero, List.set_cons_succ, List.cons_append, List.nil_append, List.append_nil, List.map_cons, List.map_nil, List.length_cons, List.length_nil, List.all_cons, List.all_nil, Bool.true_and, Bool.and_self, Bool.or_false, Nat.reduceAdd, Nat.reduceSub, Nat.reduceMul, Nat.zero_add, List.replicate, evK_go, reduceIte, Nat.reduceEqDiff, Nat.reduceLT, and_self, true_and, Int.zero_add]
  simp (implicitDefEqProofs := false) (dsimp := false) only [sf1_call, sf2_call, sf3_call, sf4_call, eval_nilI, ↓er_eql, ↓cdK_true, ↓gdK_t, ↓gval_mk, ↓gvL_zero, ↓gvL_succ, ↓nthK_H, ↓nthH_zero, ↓nthH_succ, ↓aw_seq, ↓aw_ret, ↓aw_reg, ↓Qseq_n, ↓Qret_r, ↓ops_nil, ↓ops_cons, ↓ops_guard, ↓eval_tmp, ↓eval_int, ↓eval_func, ↓put_some, ↓bK_b, ↓dK_d, ↓tK_t, ↓op_move, ↓op_assign, ↓op_pick, ↓op_bin, ↓op_extract, ↓op_build, ↓op_call, ↓orH_T, isD_d, ↓fnK_f, ↓call_H, ↓callK_H, ↓allT_nil, ↓allT_cons, ↓allD_nil, ↓allD_cons, ↓td_d, ↓ret_1, ↓st_tm, ↓cells_c, ↓cells_s, ↓one_i, ↓bs_, ↓op_bs, ↓bsL_f, ↓stored_mk, ↓sl_nil, ↓sl_cons, ↓sT_move, ↓sT_assign, ↓sT_pick, ↓sT_bin, ↓sT_build, ↓sT_bs, ↓sT_call, ↓vsz_int, ↓vsz_agg, ↓inO_1, ↓inO_3, ↓fm_nil, ↓fm_cons, ↓ty3, ↓zb3, ↓sl22, ↓sl28, ↓ty35, ↓zb35, ↓bd35, List.getD_cons_zero, List.getD_cons_succ, List.set_cons_zero, List.set_cons_succ, List.cons_append, List.nil_append, List.append_nil, List.map_cons, List.map_nil, List.length_cons, List.length_nil, List.all_cons, List.all_nil, Bool.and_true, Bool.true_and, Bool.and_self, Bool.true_or, Bool.or_false, Nat.reduceAdd, Nat.reduceSub, Nat.reduceMul, Nat.zero_add, evK_go, reduceIte, decide_true, Nat.reduceEqDiff, Nat.reduceLT, and_self, true_and, and_true, Int.zero_add]
  exact ⟨⟨rfl, by decide⟩, OrH.l (OrH.l (OrH.l (OrH.l ⟨by decide, OrH.l (OrH.l ⟨by decide, OrH.l (OrH.l ⟨rfl, by decide⟩)⟩)⟩)))⟩
theorem sfact_call  (pure : Bool) (σ : St) (dst : Option Tmp) (K : St → Prop) : CallH Try.prog 42 [] pure σ dst (.mk : Hid K) = OrH ((pure || D.flat (Bo true)) = true ∧ evK (σ.put dst (.d (Bo true))) (.mk : Hid K)) (.mk : Hid (CallH Try.prog 42 [] pure σ dst (.mk : Hid K))) := CallH.eq0 (sfact_spec ) pure σ dst K
theorem sfact_callQ  (pure : Bool) (C : V → Prop) : CallQ Try.prog 42 [] pure (.mk : Hid C) = OrH ((pure || D.flat (Bo true)) = true ∧ evK (V.d (Bo true)) (.mk : Hid C)) (.mk : Hid (CallQ Try.prog 42 [] pure (.mk : Hid C))) := CallQ.eq0 (sfact_spec ) pure C
end Go.Proofs

namespace Go.Proofs
open Go.Aw
set_option linter.unusedSimpArgs false
set_option maxRecDepth 10000
def flipI (p : Int × Int) : Int × Int := (p.2, p.1)
/-- Lines from the last one on, each the other way. -/
def backI (l : List (Int × Int)) : List (Int × Int) := l.reverse.map flipI
theorem rev_getD {l : List (Int × Int)} {k : Nat} (h : k < l.length) : l.reverse.getD k default = l.getD (l.length - 1 - k) default := by
  rw [List.getD_eq_getElem?_getD, List.getD_eq_getElem?_getD, List.getElem?_reverse h]
theorem back_spec (l : List (Int × Int)) (hpre : l.length < 2 ^ 43) : FnR Try.prog 35 [.l (l.map lnD)] 2 ((backI l).map lnD) := by
  refine FnR.go Try.func35 rfl rfl Try.results35 Try.ntmps35 ?_
  simp (implicitDefEqProofs := false) (dsimp := false) only [↓aw_seq, ↓aw_block, ↓aw_loop, ↓aw_reg, ↓Qseq_n, ↓ops_nil, ↓ops_cons, ↓eval_tmp, ↓eval_int, ↓eval_nil, ↓put_some, ↓lenK_l, ↓binE_i, ↓bi_sub, ↓in_i64, ↓op_move, ↓op_assign, ↓op_bin, ↓op_len, ↓sl22, List.getD_cons_zero, List.getD_cons_succ, List.set_cons_zero, List.set_cons_succ, List.cons_append, List.nil_append, List.map_cons, List.map_nil, List.length_cons, List.length_nil, List.length_map, Nat.reduceAdd, Nat.reduceSub, Nat.reduceMul, Nat.zero_add, List.replicate, evK_go, reduceIte, Nat.reduceEqDiff, Nat.reduceLT, Int.zero_add]
  refine ⟨by omega, ?_⟩
  refine loopW (fun k : Nat => { tm := slots 27 [(0, .d (.l (l.map lnD))), (3, .o 0 0 k), (4, .d (I .i64 ((l.length : Int) - 1 - k)))], bx := [], rw := [some ⟨2, ((l.reverse.take k).map flipI).map lnD⟩] })
    (fun k => k ≤ l.length) (fun k => l.length - k) 0 (by simp) ?_ ?_
  · refine Wkn.of [] [none] ?_
    simp (implicitDefEqProofs := false) (dsimp := false) only [↓row_xs, List.set_cons_zero, List.set_cons_succ, List.map_nil, Bool.and_true, Bool.true_and, Bool.and_self, Nat.reduceAdd, Nat.reduceSub, Nat.reduceMul, List.replicate, evK_go, reduceIte, Nat.reduceEqDiff, Nat.reduceLT, and_self, true_and, and_true, List.take_zero, List.foldl_cons, List.foldl_nil, Int.cast_ofNat_Int, slots, wkL_nil, wkL_cons, wkB_nil, wkR_nil, wkR_new, wkV_j, wkV_d, nlK_nl, wkV_o, frz_d, oK_zn, dc_eq, reduceCtorEq]
    simp
  · intro k hk
    simp (implicitDefEqProofs := false) (dsimp := false) only [slots, ↓aw_cond, ↓aw_seq, ↓aw_reg, ↓Qseq_n, ↓ops_nil, ↓ops_cons, ↓eval_tmp, ↓eval_int, ↓put_some, ↓bK_b, ↓binE_i, ↓bi_geq, ↓op_move, ↓op_bin, List.getD_cons_zero, List.getD_cons_succ, List.set_cons_zero, List.set_cons_succ, Nat.reduceAdd, Nat.reduceSub, Nat.reduceMul, List.replicate, evK_go, reduceIte, Nat.reduceEqDiff, Nat.reduceLT, List.foldl_cons, List.foldl_nil]
    refine cdK_dec (fun h => ?_) (fun h => ?_)
    · have hkl : k < l.length := by omega
      have e : ((l.length : Int) - 1 - k).toNat = l.length - 1 - k := by omega
      have h1 : l.length - 1 - k < l.length := by omega
      have h2 : (0 : Int) ≤ (l.length : Int) - 1 - k := by omega
      simp (implicitDefEqProofs := false) (dsimp := false) only [e, h1, h2, lnD_cells, ↓optK_some, ↓rwK_mk_, ↓atK_H, ↓atH_map, ↓aw_seq, ↓aw_block, ↓aw_skip, ↓aw_reg, ↓aw_draw, ↓Qseq_n, ↓Qblk_n, ↓ops_nil, ↓ops_cons, ↓eval_tmp, ↓eval_int, ↓put_some, ↓iK_i, ↓dK_d, ↓ev_move, ↓ev_load, ↓ev_fa, ↓ev_ia, ↓ev_build, ↓binE_i, ↓bi_sub, ↓in_i64, ↓ldK_q, ↓faK_q, ↓iaK_l, ↓op_move, ↓op_assign, ↓op_bin, ↓op_append, ↓allD_nil, ↓allD_cons, ↓draw_H, ↓h_cons, ↓ldH_t, ↓ldH_n, ↓q_bs, ↓q_move, ↓q_load, ↓q_fa, ↓q_ia, ↓q_build, ↓il_move, ↓il_load, ↓il_fa, ↓il_ia, ↓il_build, ↓il_bs, ↓il_append, ↓app_mk, ↓row_sz, ↓row_xs, kill_d, kill_j, kill_o, ↓cells_c, ↓cells_s, ↓one_i, ↓ap_, ↓ap_o, ↓src_l, ↓bs_, ↓vsz_agg, ↓inO_1, ↓fm_nil, ↓fm_cons, ↓hd_cons, ↓ty3, ↓sl22, ↓ty35, ↓zb35, ↓fd35_0, ↓fd35_1, ↓bd35, List.getD_cons_zero, List.getD_cons_succ, List.set_cons_zero, List.set_cons_succ, List.cons_append, List.nil_append, List.map_cons, List.map_nil, List.length_cons, List.length_nil, List.length_map, List.all_cons, List.all_nil, Bool.true_and, Bool.and_self, Nat.reduceAdd, Nat.reduceSub, Nat.reduceMul, Nat.zero_add, evK_go, reduceIte, decide_true, Nat.reduceEqDiff, Nat.reduceLT, and_self, true_and, Int.zero_add, List.drop_zero, List.drop_succ_cons]
      refine OrH.l ⟨DrawH.of follows_mixed (by kernel_rfl), ⟨rfl, by decide⟩, rfl, ⟨fun _ => trivial, by simp; omega, by omega, by omega⟩, by omega, k + 1, by omega, by omega, ?_⟩
      refine Wkn.of [] [some 0] ?_
      have hkr : k < l.reverse.length := by simpa using hkl
      have e5 : (l.length : Int) - 1 - k - 1 = (l.length : Int) - 1 - ((k + 1 : Nat) : Int) := by omega
      simp (implicitDefEqProofs := false) (dsimp := false) only [e5, take_succ_getD hkr, rev_getD hkl, List.map_append, lnD, flipI, List.getD_cons_zero, List.set_cons_zero, List.set_cons_succ, List.map_cons, List.map_nil, Bool.and_self, Nat.reduceAdd, Nat.reduceSub, Nat.reduceMul, List.replicate, evK_go, reduceIte, Nat.reduceEqDiff, Nat.reduceLT, and_self, List.foldl_cons, List.foldl_nil, Int.cast_ofNat_Int, Int.natCast_add, slots, wkL_nil, wkL_cons, wkB_nil, wkR_nil, wkR_some, wkV_j, wkV_d, wkV_o, frz_d, oK_zs, reduceCtorEq]
    · obtain rfl : k = l.length := by omega
      simp (implicitDefEqProofs := false) (dsimp := false) only [↓optK_some, ↓rwK_mk_, ↓aw_seq, ↓aw_exit, ↓aw_ret, ↓aw_reg, ↓Qseq_n, ↓Qseq_x, ↓Qblk_x, ↓ops_nil, ↓ops_cons, ↓eval_tmp, ↓put_some, ↓op_move, ↓op_assign, ↓row_sz, ↓row_xs, ↓Qrow_r, ↓rowK_o, List.getD_cons_zero, List.getD_cons_succ, List.set_cons_zero, List.set_cons_succ, Bool.true_and, Nat.reduceAdd, Nat.reduceSub, Nat.reduceMul, evK_go, reduceIte, Nat.reduceEqDiff, Nat.reduceLT, true_and]
      have e1 : List.take l.length l.reverse = l.reverse := List.take_of_length_le (by simp)
      rw [e1]
      exact List.take_of_length_le (by simp)
theorem back_call (l : List (Int × Int)) (pure : Bool) (σ : St) (dst : Option Tmp) (K : St → Prop) : CallH Try.prog 35 [.l (l.map lnD)] pure σ dst (.mk : Hid K) = OrH ((l.length < 2 ^ 43) ∧ (pure || Res.flat (.row 2 ((backI l).map lnD))) = true ∧ evK ((σ.addRow ⟨2, (backI l).map lnD⟩).put dst (.o σ.rw.length 0 (List.length ((backI l).map lnD)))) (.mk : Hid K)) (.mk : Hid (CallH Try.prog 35 [.l (l.map lnD)] pure σ dst (.mk : Hid K))) := CallH.eqR (fun h => back_spec l h) pure σ dst K
theorem back_callD (l : List (Int × Int)) (pure : Bool) (σ : St) (dst : Option Tmp) (K : St → Prop) : CallH Try.prog 35 [.l (l.map lnD)] pure σ dst (.mk : Hid K) = OrH ((l.length < 2 ^ 43) ∧ (pure || D.flat (.l ((backI l).map lnD))) = true ∧ evK (σ.put dst (.d (.l ((backI l).map lnD)))) (.mk : Hid K)) (.mk : Hid (CallH Try.prog 35 [.l (l.map lnD)] pure σ dst (.mk : Hid K))) := CallH.eq (fun h => ((fun h => back_spec l h) h).data) pure σ dst K
theorem back_callDQ (l : List (Int × Int)) (pure : Bool) (C : V → Prop) : CallQ Try.prog 35 [.l (l.map lnD)] pure (.mk : Hid C) = OrH ((l.length < 2 ^ 43) ∧ (pure || D.flat (.l ((backI l).map lnD))) = true ∧ evK (V.d (.l ((backI l).map lnD))) (.mk : Hid C)) (.mk : Hid (CallQ Try.prog 35 [.l (l.map lnD)] pure (.mk : Hid C))) := CallQ.eq (fun h => ((fun h => back_spec l h) h).data) pure C
end Go.Proofs

namespace Go.Proofs
open Go.Aw
set_option linter.unusedSimpArgs false
set_option maxRecDepth 10000
theorem nD_ints (s : List Nat) : s.map nD = (s.map Int.ofNat).map (I .i64) := by rw [List.map_map]; rfl
theorem intsN_spec (a b : List Nat) (hpre : a.length < 2 ^ 62) : FnD Try.prog 44 [.l (a.map nD), .l (b.map nD)] (Bo (decide (a = b))) := by
  have h := ints_spec (a.map Int.ofNat) (b.map Int.ofNat) (by simpa using hpre)
  rw [← nD_ints, ← nD_ints] at h
  have e : (decide (a.map Int.ofNat = b.map Int.ofNat)) = decide (a = b) := by
    by_cases hab : a = b
    · simp [hab]
    · simp (implicitDefEqProofs := false) (dsimp := false) only [hab, decide_false, decide_eq_false_iff_not]; exact fun e => hab (ofNat_inj e)
  rw [e] at h
  exact h
theorem intsN_call (a b : List Nat) (pure : Bool) (σ : St) (dst : Option Tmp) (K : St → Prop) : CallH Try.prog 44 [.l (a.map nD), .l (b.map nD)] pure σ dst (.mk : Hid K) = OrH ((a.length < 2 ^ 62) ∧ (pure || D.flat (Bo (decide (a = b)))) = true ∧ evK (σ.put dst (.d (Bo (decide (a = b))))) (.mk : Hid K)) (.mk : Hid (CallH Try.prog 44 [.l (a.map nD), .l (b.map nD)] pure σ dst (.mk : Hid K))) := CallH.eq (intsN_spec a b) pure σ dst K
theorem intsN_callQ (a b : List Nat) (pure : Bool) (C : V → Prop) : CallQ Try.prog 44 [.l (a.map nD), .l (b.map nD)] pure (.mk : Hid C) = OrH ((a.length < 2 ^ 62) ∧ (pure || D.flat (Bo (decide (a = b)))) = true ∧ evK (V.d (Bo (decide (a = b)))) (.mk : Hid C)) (.mk : Hid (CallQ Try.prog 44 [.l (a.map nD), .l (b.map nD)] pure (.mk : Hid C))) := CallQ.eq (intsN_spec a b) pure C
theorem firstErr_iff {f : Int × Int → Int} {l : List (Int × Int)} : firstErr f l = 0 ↔ ∀ p ∈ l, f p = 0 := by
  refine ⟨firstErr_zero, fun h => ?_⟩
  induction l with
  | nil => rfl
  | cons p l ih =>
    simp (implicitDefEqProofs := false) (dsimp := false) only [firstErr, h p (by simp), if_true]
    exact ih fun q hq => h q (by simp [hq])
theorem chk_iff {n : Int} {l : List (Int × Int)} : chk n l = 0 ↔ (1 ≤ n ∧ n ≤ 8) ∧ l.length ≤ 24 ∧ ∀ p ∈ l, lineErr n p = 0 := by
  unfold chk
  split
  · rename_i h
    have : ¬ (1 ≤ n ∧ n ≤ 8) := by simpa [inB] using h
    constructor
    · intro h; cases h
    · intro h; exact absurd h.1 this
  · rename_i h
    have : 1 ≤ n ∧ n ≤ 8 := by simpa [inB] using h
    split
    · constructor
      · intro h; cases h
      · intro h; omega
    · rw [firstErr_iff]
      constructor
      · intro h; exact ⟨this, by omega, h⟩
      · intro h; exact h.2.2
theorem lineErr_iff {n : Int} {p : Int × Int} : lineErr n p = 0 ↔ (0 ≤ p.1 ∧ p.1 ≤ n - 1) ∧ (0 ≤ p.2 ∧ p.2 ≤ n - 1) ∧ p.1 ≠ p.2 := by
  unfold lineErr
  split
  · rename_i h
    constructor
    · intro h; cases h
    · intro h2; simp [inB, h2] at h
  · rename_i h
    simp (implicitDefEqProofs := false) (dsimp := false) only [Bool.not_eq_false, Bool.and_eq_true, inB, decide_eq_true_eq] at h
    split
    · rename_i h3
      constructor
      · intro h; cases h
      · intro h2; exact absurd h3 h2.2.2
    · rename_i h3
      exact ⟨fun _ => ⟨h.1, h.2, h3⟩, fun _ => rfl⟩
theorem chk_back {n : Int} {l : List (Int × Int)} : chk n (backI l) = 0 ↔ chk n l = 0 := by
  rw [chk_iff, chk_iff]
  have hl : (backI l).length = l.length := by simp [backI]
  rw [hl]
  refine and_congr_right fun _ => and_congr_right fun _ => ?_
  constructor
  · intro h p hp
    have := h (flipI p) (List.mem_map.2 ⟨p, by simpa using hp, rfl⟩)
    rw [lineErr_iff] at this ⊢
    exact ⟨this.2.1, this.1, fun e => this.2.2 e.symm⟩
  · intro h p hp
    obtain ⟨q, hq, rfl⟩ := List.mem_map.1 hp
    have := h q (by simpa using hq)
    rw [lineErr_iff] at this ⊢
    exact ⟨this.2.1, this.1, fun e => this.2.2 e.symm⟩
theorem natL_back (l : List (Int × Int)) : natL (backI l) = backL (natL l) := by
  unfold natL backI backL
  rw [List.map_map, ← List.map_reverse, List.map_map]
  rfl
theorem strongR_back (n : Int) (l : List (Int × Int)) : strongR n (backI l) = strongR n l := by
  unfold strongR
  by_cases h : chk n l = 0
  · rw [if_pos h, if_pos (chk_back.2 h), natL_back]
    have ok := chk_ok h
    exact strong_turn (by have := ok.hi; omega) ok.good
  · rw [if_neg h, if_neg (fun h' => h (chk_back.1 h'))]
theorem strongR_len (n : Int) (l : List (Int × Int)) : 0 < (strongR n l).length ↔ chk n l = 0 := by
  unfold strongR
  by_cases h : chk n l = 0
  · rw [if_pos h]
    have := (chk_ok h).lo
    simp [strongP, h]; omega
  · rw [if_neg h]; simp [h]
theorem strongR_le (n : Int) (l : List (Int × Int)) : (strongR n l).length ≤ 8 := by
  unfold strongR
  split
  · rename_i h
    have := (chk_ok h).hi
    simp [strongP]; omega
  · simp
theorem lStrongTurn_spec (n : Int) (l : List (Int × Int)) (hpre : l.length < 2 ^ 43) : FnD Try.prog 9 [I .i64 n, .l (l.map lnD)] (Bo true) := by
  have hl62 : l.length < 2 ^ 62 := by omega
  have hb62 : (backI l).length < 2 ^ 62 := by simp [backI]; omega
  refine FnD.go Try.func9 rfl rfl Try.results9 Try.ntmps9 ?_
  simp (implicitDefEqProofs := false) (dsimp := false) only [↓aw_seq, ↓aw_reg, ↓Qseq_n, ↓ops_nil, ↓ops_cons, ↓eval_bool, ↓eval_func, ↓put_some, ↓op_assign, ↓op_call, isD_d, ↓fnK_f, ↓call_H, ↓callK_H, ↓allT_nil, ↓td_d, List.set_cons_zero, List.set_cons_succ, List.cons_append, List.nil_append, List.append_nil, List.map_cons, List.map_nil, List.length_cons, List.length_nil, List.all_nil, Bool.and_self, Nat.reduceAdd, Nat.reduceSub, Nat.reduceMul, Nat.zero_add, List.replicate, evK_go, reduceIte, Nat.reduceEqDiff, Nat.reduceLT, and_self, Int.zero_add]
  simp (implicitDefEqProofs := false) (dsimp := false) only [sfact_call, spartsS_call, back_callD, hl62, hb62, hpre, eval_nilI, ↓er_eql, ↓bo_eql, ↓cdK_false, ↓gdK_t, ↓gval_mk, ↓gvL_zero, ↓gvL_succ, ↓nthK_H, ↓nthH_zero, ↓nthH_succ, ↓aw_cond, ↓aw_seq, ↓aw_skip, ↓aw_reg, ↓aw_draw, ↓Qseq_n, ↓ops_nil, ↓ops_cons, ↓eval_tmp, ↓eval_func, ↓put_some, ↓bK_b, ↓ev_move, ↓ev_bin, ↓tK_t, ↓op_move, ↓op_assign, ↓op_not, ↓op_extract, ↓op_call, isD_d, ↓fnK_f, ↓call_H, ↓callK_H, ↓allT_nil, ↓allT_cons, ↓td_d, ↓draw_H, ↓h_cons, ↓ldH_n, ↓ldH_g, ↓q_move, ↓q_bin, ↓il_move, ↓il_bin, ↓st_tm, List.getD_cons_zero, List.getD_cons_succ, List.set_cons_zero, List.set_cons_succ, List.append_nil, List.all_cons, List.all_nil, Bool.true_and, Bool.and_self, Bool.true_or, Nat.reduceAdd, Nat.reduceSub, Nat.reduceMul, evK_go, reduceIte, Bool.not_true, Nat.reduceEqDiff, Nat.reduceLT, and_self, true_and]
  have e1 : decide (chk n (backI l) = 0) = decide (chk n l = 0) := by simp (implicitDefEqProofs := false) (dsimp := false) only [chk_back]
  have e2 := strongR_back n l
  have e3 : decide ((0 : Int) < (strongR n l).length) = decide (chk n l = 0) := by
    have := strongR_len n l
    rw [decide_eq_decide]; omega
  have h8 : (strongR n l).length < 2 ^ 62 := by have := strongR_le n l; omega
  refine OrH.l (OrH.l (OrH.l (OrH.l (OrH.l (OrH.l (OrH.l (OrH.l (OrH.l ⟨DrawH.of follows_mixed (by kernel_rfl), ?_⟩))))))))
  simp (implicitDefEqProofs := false) (dsimp := false) only [e1, e2, e3, beq_self_eq_true, intsN_callQ, h8, eval_nilI, ↓er_eql, ↓bo_eql, ↓cdK_true, ↓gdK_t, ↓gval_mk, ↓gvL_zero, ↓gvL_succ, ↓aw_ret, ↓Qseq_n, ↓Qret_r, ↓eval_tmp, ↓eval_int, ↓eval_func, ↓put_some, ↓bK_b, ↓lenK_l, ↓ev_move, ↓ev_assign, ↓ev_pick, ↓ev_bin, ↓ev_len, ↓binE_i, ↓bi_gtr, ↓orH_T, isD_d, ↓fnK_f, ↓callKQ_H, ↓allT_nil, ↓allT_cons, ↓td_d, ↓ret_1, ↓h_nil, ↓h_cons, ↓ldH_n, ↓ldH_g, ↓q_call, ↓q_bi, ↓q_move, ↓q_assign, ↓q_pick, ↓q_bin, ↓il_move, ↓il_assign, ↓il_pick, ↓il_bin, ↓il_call, ↓il_len, ↓st_tm, ↓sl28, List.getD_cons_zero, List.getD_cons_succ, List.set_cons_zero, List.set_cons_succ, List.append_nil, List.length_map, List.all_cons, List.all_nil, Bool.and_self, Bool.true_or, Nat.reduceAdd, Nat.reduceSub, Nat.reduceMul, evK_go, reduceIte, decide_true, Nat.reduceEqDiff, Nat.reduceLT, and_self]
end Go.Proofs

namespace Go.Proofs
open Go.Aw
set_option linter.unusedSimpArgs false
set_option maxRecDepth 10000
theorem inB_iff {x lo hi : Int} : inB x lo hi = true ↔ lo ≤ x ∧ x ≤ hi := by simp [inB]
theorem ptsI_mem (s : Nat) (c : Nat) : (c : Int) ∈ ptsI s ↔ c < 64 ∧ s.testBit c = true := by
  unfold ptsI
  rw [List.mem_map, ← pts_mem]
  exact ⟨fun ⟨x, h, e⟩ => by rw [← Int.ofNat_inj.1 e]; exact h, fun h => ⟨c, h, rfl⟩⟩
theorem mapP_get (W : List Nat) (i : Nat) : (W.map ptsI).getD i default = ptsI (W.getD i default) := by
  rw [List.getD_eq_getElem?_getD, List.getD_eq_getElem?_getD, List.getElem?_map]
  cases W[i]? <;> rfl
theorem lStrongBoth_spec (n : Int) (l : List (Int × Int)) (a b : Int) (_hn : -9223372036854775808 ≤ n ∧ n ≤ 9223372036854775807) (hpre : l.length < 2 ^ 43) (_ha : -9223372036854775808 ≤ a ∧ a ≤ 9223372036854775807) (_hb : -9223372036854775808 ≤ b ∧ b ≤ 9223372036854775807) :
    FnD Try.prog 19 [I .i64 n, .l (l.map lnD), I .i64 a, I .i64 b] (Bo true) := by
  have hl62 : l.length < 2 ^ 62 := by omega
  refine FnD.go Try.func19 rfl rfl Try.results19 Try.ntmps19 ?_
  simp (implicitDefEqProofs := false) (dsimp := false) only [↓aw_seq, ↓aw_reg, ↓Qseq_n, ↓ops_nil, ↓ops_cons, ↓eval_bool, ↓eval_func, ↓put_some, ↓op_assign, ↓op_call, isD_d, ↓fnK_f, ↓call_H, ↓callK_H, ↓allT_nil, ↓td_d, List.set_cons_zero, List.set_cons_succ, List.cons_append, List.nil_append, List.append_nil, List.map_cons, List.map_nil, List.length_cons, List.length_nil, List.all_nil, Bool.and_self, Nat.reduceAdd, Nat.reduceSub, Nat.reduceMul, Nat.zero_add, List.replicate, evK_go, reduceIte, Nat.reduceEqDiff, Nat.reduceLT, and_self, Int.zero_add]
  simp (implicitDefEqProofs := false) (dsimp := false) only [sfact_call, spartsS_call, hl62, eval_nilI, ↓er_neq, ↓cdK_false, ↓cdK_not, ↓nthK_H, ↓nthH_zero, ↓nthH_succ, ↓aw_cond, ↓aw_seq, ↓aw_skip, ↓aw_reg, ↓Qseq_n, ↓ops_nil, ↓ops_cons, ↓eval_tmp, ↓eval_func, ↓put_some, ↓bK_b, ↓tK_t, ↓op_move, ↓op_assign, ↓op_bin, ↓op_not, ↓op_extract, ↓op_call, isD_d, ↓fnK_f, ↓call_H, ↓callK_H, ↓allT_nil, ↓allT_cons, ↓td_d, List.getD_cons_zero, List.getD_cons_succ, List.set_cons_zero, List.set_cons_succ, List.append_nil, List.all_cons, List.all_nil, Bool.true_and, Bool.and_self, Bool.true_or, Nat.reduceAdd, Nat.reduceSub, Nat.reduceMul, evK_go, reduceIte, Bool.not_true, Nat.reduceEqDiff, Nat.reduceLT, and_self, true_and]
  refine OrH.l (OrH.l (OrH.l (OrH.l (cdK_dec (fun hc => ?_) (fun hc => ?_)))))
  rotate_left
  · have e1 : strongR n l = [] := if_neg hc
    simp (implicitDefEqProofs := false) (dsimp := false) only [e1, ↓aw_seq, ↓aw_ret, ↓aw_reg, ↓Qseq_n, ↓Qseq_r, ↓Qret_r, ↓ops_nil, ↓ops_cons, ↓eval_tmp, ↓eval_int, ↓put_some, ↓lenK_l, ↓binE_i, ↓bi_eql, ↓op_move, ↓op_assign, ↓op_bin, ↓op_len, ↓td_d, ↓ret_1, ↓sl28, List.getD_cons_zero, List.getD_cons_succ, List.set_cons_zero, List.set_cons_succ, List.map_nil, List.length_nil, Nat.reduceAdd, Nat.reduceSub, Nat.reduceMul, evK_go, reduceIte, decide_true, Nat.reduceEqDiff, Nat.reduceLT, Int.cast_ofNat_Int]
  simp (implicitDefEqProofs := false) (dsimp := false) only [call_call, hl62, hc, eval_nilI, ↓er_neq, ↓cdK_false, ↓cdK_not, ↓gdK_f, ↓gval_mk, ↓gvL_zero, ↓gvL_succ, ↓nthK_H, ↓nthH_zero, ↓nthH_succ, ↓aw_seq, ↓aw_skip, ↓aw_reg, ↓Qseq_n, ↓ops_nil, ↓ops_cons, ↓ops_guard, ↓eval_tmp, ↓eval_func, ↓put_some, ↓bK_b, ↓lenK_l, ↓tK_t, ↓binE_i, ↓bi_neq, ↓op_move, ↓op_assign, ↓op_pick, ↓op_bin, ↓op_extract, ↓op_len, ↓op_call, isD_d, ↓fnK_f, ↓call_H, ↓callK_H, ↓allT_nil, ↓allT_cons, ↓td_d, ↓st_tm, ↓sl28, List.getD_cons_zero, List.getD_cons_succ, List.set_cons_zero, List.set_cons_succ, List.append_nil, List.length_map, List.all_cons, List.all_nil, Bool.true_and, Bool.and_self, Bool.true_or, Nat.reduceAdd, Nat.reduceSub, Nat.reduceMul, evK_go, reduceIte, decide_true, Bool.not_true, Nat.reduceEqDiff, Nat.reduceLT, and_self, true_and]
  have ok := chk_ok hc
  have h8 := ok.hi
  have hlo := ok.lo
  have hg := ok.good
  have e0 := ok.n0
  rw [show strongR n l = strongP n.toNat (natL l) from if_pos hc, show closeAll n l = (war n.toNat (natL l)).map ptsI from if_pos hc]
  clear ok hc hl62 hpre
  generalize natL l = L at *
  generalize n.toNat = m at *
  subst e0
  have hP : (strongP m L).length = m := by simp [strongP]
  have hW : (war m L).length = m := war_len hg
  simp (implicitDefEqProofs := false) (dsimp := false) only [hP, hW, in2_call, ↓cdK_true, ↓cdK_false, ↓cdK_not, ↓gdK_f, ↓gval_mk, ↓gvL_zero, ↓gvL_succ, ↓ops_cons, ↓ops_guard, ↓eval_tmp, ↓eval_int, ↓eval_func, ↓put_some, ↓bK_b, ↓lenK_l, ↓binE_i, ↓bi_sub, ↓bi_neq, ↓in_i64, ↓op_move, ↓op_pick, ↓op_bin, ↓op_not, ↓op_len, ↓op_call, isD_d, ↓fnK_f, ↓call_H, ↓callK_H, ↓allT_nil, ↓allT_cons, ↓td_d, ↓st_tm, ↓sl44, List.getD_cons_zero, List.getD_cons_succ, List.set_cons_zero, List.set_cons_succ, List.append_nil, List.length_map, List.all_cons, List.all_nil, Bool.true_and, Bool.and_self, Bool.true_or, Nat.reduceAdd, Nat.reduceSub, Nat.reduceMul, evK_go, reduceIte, decide_true, Bool.not_true, Nat.reduceEqDiff, Nat.reduceLT, and_self, true_and]
  refine OrH.l (OrH.l ⟨by omega, OrH.l (OrH.l (cdK_split (fun hA => ?_) (fun hA => ?_)))⟩)
  rotate_left
  · simp (implicitDefEqProofs := false) (dsimp := false) only [hA, hP, hW, eval_nilI, ↓er_eql, ↓cdK_true, ↓gdK_t, ↓gdK_f, ↓gval_mk, ↓gvL_zero, ↓gvL_succ, ↓aw_cond, ↓aw_seq, ↓aw_ret, ↓aw_reg, ↓Qseq_n, ↓Qseq_r, ↓Qret_r, ↓ops_nil, ↓ops_cons, ↓ops_guard, ↓eval_tmp, ↓eval_bool, ↓put_some, ↓bK_b, ↓lenK_l, ↓binE_i, ↓bi_eql, ↓op_move, ↓op_assign, ↓op_pick, ↓op_bin, ↓op_len, ↓td_d, ↓ret_1, ↓st_tm, ↓sl28, ↓sl44, List.getD_cons_zero, List.getD_cons_succ, List.set_cons_zero, List.set_cons_succ, List.length_map, Nat.reduceAdd, Nat.reduceSub, Nat.reduceMul, evK_go, reduceIte, decide_true, Bool.not_false, Nat.reduceEqDiff, Nat.reduceLT]
  simp (implicitDefEqProofs := false) (dsimp := false) only [hA, in2_call, ↓cdK_false, ↓cdK_not, ↓gdK_f, ↓gval_mk, ↓gvL_zero, ↓gvL_succ, ↓aw_cond, ↓Qseq_n, ↓ops_nil, ↓ops_cons, ↓ops_guard, ↓eval_tmp, ↓eval_int, ↓eval_func, ↓put_some, ↓bK_b, ↓binE_i, ↓bi_sub, ↓in_i64, ↓op_move, ↓op_pick, ↓op_bin, ↓op_not, ↓op_call, isD_d, ↓fnK_f, ↓call_H, ↓callK_H, ↓allT_nil, ↓allT_cons, ↓td_d, ↓st_tm, List.getD_cons_zero, List.getD_cons_succ, List.set_cons_zero, List.set_cons_succ, List.append_nil, List.all_cons, List.all_nil, Bool.true_and, Bool.and_self, Bool.true_or, Nat.reduceAdd, Nat.reduceSub, Nat.reduceMul, evK_go, reduceIte, Bool.not_true, Nat.reduceEqDiff, Nat.reduceLT, and_self, true_and]
  refine ⟨by omega, OrH.l (OrH.l (cdK_split (fun hB => ?_) (fun hB => ?_)))⟩
  rotate_left
  · simp (implicitDefEqProofs := false) (dsimp := false) only [hB, hP, hW, eval_nilI, ↓er_eql, ↓cdK_true, ↓gdK_t, ↓gval_mk, ↓gvL_zero, ↓gvL_succ, ↓aw_seq, ↓aw_ret, ↓aw_reg, ↓Qseq_n, ↓Qseq_r, ↓Qret_r, ↓ops_nil, ↓ops_cons, ↓ops_guard, ↓eval_tmp, ↓put_some, ↓bK_b, ↓lenK_l, ↓binE_i, ↓bi_eql, ↓op_move, ↓op_assign, ↓op_pick, ↓op_bin, ↓op_len, ↓td_d, ↓ret_1, ↓st_tm, ↓sl28, ↓sl44, List.getD_cons_zero, List.getD_cons_succ, List.set_cons_zero, List.set_cons_succ, List.length_map, Nat.reduceAdd, Nat.reduceSub, Nat.reduceMul, evK_go, reduceIte, decide_true, Bool.not_false, Nat.reduceEqDiff, Nat.reduceLT]
  rw [inB_iff] at hA hB
  obtain ⟨x, rfl⟩ := Int.eq_ofNat_of_zero_le hA.1
  obtain ⟨y, rfl⟩ := Int.eq_ofNat_of_zero_le hB.1
  have hx : x < m := by omega
  have hy : y < m := by omega
  have hA' : inB (x : Int) 0 ((m : Int) - 1) = true := inB_iff.2 hA
  have hB' : inB (y : Int) 0 ((m : Int) - 1) = true := inB_iff.2 hB
  have hk : ∀ i j : Nat, (j : Int) ∈ ptsI ((war m L).getD i default) ↔ Path1 L i j := fun i j => by
    rw [ptsI_mem, war_bit hg]
    exact ⟨fun h => h.2, fun h => ⟨by have := (h.lt hg).2; omega, h⟩⟩
  have hl62 : ∀ i : Nat, (ptsI ((war m L).getD i default)).length < 2 ^ 62 := fun i => by have := ptsI_len ((war m L).getD i default); omega
  have hPx : (strongP m L).getD x default = part m L x := P_get hx
  have hPy : (strongP m L).getD y default = part m L y := P_get hy
  have hle := (part_mut (by omega) hg hx).2
  have hin : inB (part m L x : Int) 0 (x : Int) = true := inB_iff.2 ⟨by omega, by omega⟩
  have hiff := part_iff (by omega) hg hx hy
  simp (implicitDefEqProofs := false) (dsimp := false) only [hB', ↓gdK_f, ↓gval_mk, ↓gvL_zero, ↓gvL_succ, ↓aw_seq, ↓aw_skip, ↓aw_reg, ↓Qseq_n, ↓ops_cons, ↓ops_guard, ↓eval_tmp, ↓put_some, ↓binE_i, ↓bi_eql, ↓op_move, ↓op_bin, ↓st_tm, List.getD_cons_zero, List.getD_cons_succ, List.set_cons_zero, List.set_cons_succ, Nat.reduceAdd, Nat.reduceSub, Nat.reduceMul, evK_go, reduceIte, Bool.not_true, Nat.reduceEqDiff, Nat.reduceLT, Int.natCast_inj]
  refine cdK_dec (fun hxy => ?_) (fun hxy => ?_)
  · subst hxy
    simp (implicitDefEqProofs := false) (dsimp := false) only [hx, hP, hPx, nD, ↓bo_eql, ↓cdK_true, ↓gdK_junk, ↓gdK_t, ↓gdK_f, ↓gval_mk, ↓gvL_zero, ↓gvL_succ, ↓atK_H, ↓atH_map, ↓aw_seq, ↓aw_draw, ↓Qseq_n, ↓ops_nil, ↓ops_cons, ↓ops_guard, ↓eval_tmp, ↓eval_bool, ↓put_some, ↓bK_b, ↓iK_i, ↓ev_move, ↓ev_load, ↓ev_bin, ↓ev_ia, ↓binE_i, ↓bi_eql, ↓ldK_q, ↓iaK_l, ↓op_assign, ↓op_pick, ↓draw_H, ↓h_cons, ↓ldH_n, ↓ldH_g, ↓q_move, ↓q_load, ↓q_bin, ↓q_ia, ↓il_move, ↓il_load, ↓il_bin, ↓il_ia, ↓st_tm, ↓cells_c, ↓hd_cons, ↓ty3, ↓sl28, List.getD_cons_zero, List.getD_cons_succ, List.set_cons_zero, List.set_cons_succ, List.length_cons, List.length_nil, Bool.true_and, Nat.reduceAdd, Nat.reduceSub, Nat.reduceMul, Nat.zero_add, Int.toNat_natCast, evK_go, reduceIte, decide_true, Nat.reduceEqDiff, Nat.reduceLT, true_and, Int.zero_add, Int.natCast_nonneg]
    refine OrH.l ⟨DrawH.of follows_mixed (by kernel_rfl), ?_⟩
    simp (implicitDefEqProofs := false) (dsimp := false) only [beq_self_eq_true, hx, hP, hPx, nD, in2_callQ, hin, ↓cdK_true, ↓gdK_t, ↓gval_mk, ↓gvL_zero, ↓gvL_succ, ↓atK_H, ↓atH_map, ↓aw_ret, ↓Qseq_n, ↓Qret_r, ↓eval_tmp, ↓eval_int, ↓eval_func, ↓put_some, ↓bK_b, ↓iK_i, ↓ev_move, ↓ev_assign, ↓ev_pick, ↓ev_load, ↓ev_ia, ↓ldK_q, ↓iaK_l, ↓orH_T, isD_d, ↓fnK_f, ↓callKQ_H, ↓allT_nil, ↓allT_cons, ↓td_d, ↓ret_1, ↓h_nil, ↓h_cons, ↓ldH_n, ↓ldH_g, ↓q_call, ↓q_move, ↓q_assign, ↓q_pick, ↓q_load, ↓q_ia, ↓il_move, ↓il_assign, ↓il_pick, ↓il_load, ↓il_ia, ↓il_call, ↓st_tm, ↓cells_c, ↓hd_cons, ↓ty3, ↓sl28, List.getD_cons_zero, List.getD_cons_succ, List.set_cons_zero, List.set_cons_succ, List.append_nil, List.length_cons, List.length_nil, List.all_cons, List.all_nil, Bool.and_self, Bool.true_or, Nat.reduceAdd, Nat.reduceSub, Nat.reduceMul, Nat.zero_add, Int.toNat_natCast, evK_go, reduceIte, Nat.reduceEqDiff, Nat.reduceLT, and_self, Int.zero_add, Int.natCast_nonneg]
  · have hm : Mut L x y ↔ (Path1 L x y ∧ Path1 L y x) := ⟨fun h => ⟨h.1.cases1.resolve_left hxy, h.2.cases1.resolve_left fun e => hxy e.symm⟩, fun h => ⟨h.1.path, h.2.path⟩⟩
    rw [hm, ← hk, ← hk] at hiff
    by_cases h1 : (y : Int) ∈ ptsI ((war m L).getD x default)
    · by_cases h2 : (x : Int) ∈ ptsI ((war m L).getD y default)
      · have he := hiff.2 ⟨h1, h2⟩
        rw [he] at hin
        simp (implicitDefEqProofs := false) (dsimp := false) only [hx, hy, hP, hW, hxy, liD, mapP_get, hasR_call, hl62, h1, h2, nD, hPx, hPy, he, ↓bo_eql, ↓cdK_true, ↓cdK_false, ↓gdK_t, ↓gdK_f, ↓gval_mk, ↓gvL_zero, ↓gvL_succ, ↓atK_H, ↓atH_map, ↓aw_seq, ↓aw_draw, ↓Qseq_n, ↓ops_nil, ↓ops_cons, ↓ops_guard, ↓eval_tmp, ↓eval_func, ↓put_some, ↓bK_b, ↓iK_i, ↓ev_move, ↓ev_load, ↓ev_bin, ↓ev_ia, ↓binE_i, ↓bi_eql, ↓ldK_q, ↓iaK_l, ↓op_move, ↓op_assign, ↓op_pick, ↓op_load, ↓op_ia, ↓op_call, isD_d, ↓fnK_f, ↓call_H, ↓callK_H, ↓allT_nil, ↓allT_cons, ↓td_d, ↓draw_H, ↓h_cons, ↓ldH_n, ↓ldH_g, ↓q_move, ↓q_load, ↓q_bin, ↓q_ia, ↓il_move, ↓il_load, ↓il_bin, ↓il_ia, ↓st_tm, ↓cells_c, ↓cells_l, ↓hd_cons, ↓ty3, ↓ty28, ↓sl28, ↓sl44, List.getD_cons_zero, List.getD_cons_succ, List.set_cons_zero, List.set_cons_succ, List.append_nil, List.length_cons, List.length_nil, List.length_map, List.all_cons, List.all_nil, Bool.true_and, Bool.and_self, Bool.true_or, Nat.reduceAdd, Nat.reduceSub, Nat.reduceMul, Nat.zero_add, Int.toNat_natCast, evK_go, reduceIte, decide_true, decide_false, Nat.reduceEqDiff, Nat.reduceLT, and_self, true_and, Int.zero_add, Int.natCast_nonneg]
        repeat refine OrH.l ?_
        refine ⟨DrawH.of follows_mixed (by kernel_rfl), ?_⟩
        simp (implicitDefEqProofs := false) (dsimp := false) only [beq_self_eq_true, hx, hP, nD, hPx, he, in2_callQ, hin, ↓cdK_true, ↓gdK_t, ↓gval_mk, ↓gvL_zero, ↓gvL_succ, ↓atK_H, ↓atH_map, ↓aw_ret, ↓Qseq_n, ↓Qret_r, ↓eval_tmp, ↓eval_int, ↓eval_func, ↓put_some, ↓bK_b, ↓iK_i, ↓ev_move, ↓ev_assign, ↓ev_pick, ↓ev_load, ↓ev_ia, ↓ldK_q, ↓iaK_l, ↓orH_T, isD_d, ↓fnK_f, ↓callKQ_H, ↓allT_nil, ↓allT_cons, ↓td_d, ↓ret_1, ↓h_nil, ↓h_cons, ↓ldH_n, ↓ldH_g, ↓q_call, ↓q_move, ↓q_assign, ↓q_pick, ↓q_load, ↓q_ia, ↓il_move, ↓il_assign, ↓il_pick, ↓il_load, ↓il_ia, ↓il_call, ↓st_tm, ↓cells_c, ↓hd_cons, ↓ty3, ↓sl28, List.getD_cons_zero, List.getD_cons_succ, List.set_cons_zero, List.set_cons_succ, List.append_nil, List.length_cons, List.length_nil, List.all_cons, List.all_nil, Bool.and_self, Bool.true_or, Nat.reduceAdd, Nat.reduceSub, Nat.reduceMul, Nat.zero_add, Int.toNat_natCast, evK_go, reduceIte, Nat.reduceEqDiff, Nat.reduceLT, and_self, Int.zero_add, Int.natCast_nonneg]
      · have he : ¬ part m L x = part m L y := fun e => h2 (hiff.1 e).2
        simp (implicitDefEqProofs := false) (dsimp := false) only [hx, hy, hP, hW, hxy, liD, mapP_get, hasR_call, hl62, h1, h2, nD, hPx, hPy, he, ↓bo_eql, ↓cdK_true, ↓cdK_false, ↓gdK_t, ↓gdK_f, ↓gval_mk, ↓gvL_zero, ↓gvL_succ, ↓atK_H, ↓atH_map, ↓aw_seq, ↓aw_draw, ↓Qseq_n, ↓ops_nil, ↓ops_cons, ↓ops_guard, ↓eval_tmp, ↓eval_func, ↓put_some, ↓bK_b, ↓iK_i, ↓ev_move, ↓ev_load, ↓ev_bin, ↓ev_ia, ↓binE_i, ↓bi_eql, ↓ldK_q, ↓iaK_l, ↓op_move, ↓op_assign, ↓op_pick, ↓op_load, ↓op_ia, ↓op_call, isD_d, ↓fnK_f, ↓call_H, ↓callK_H, ↓allT_nil, ↓allT_cons, ↓td_d, ↓draw_H, ↓h_cons, ↓ldH_n, ↓ldH_g, ↓q_move, ↓q_load, ↓q_bin, ↓q_ia, ↓il_move, ↓il_load, ↓il_bin, ↓il_ia, ↓st_tm, ↓cells_c, ↓cells_l, ↓hd_cons, ↓ty3, ↓ty28, ↓sl28, ↓sl44, List.getD_cons_zero, List.getD_cons_succ, List.set_cons_zero, List.set_cons_succ, List.append_nil, List.length_cons, List.length_nil, List.length_map, List.all_cons, List.all_nil, Bool.true_and, Bool.and_self, Bool.true_or, Nat.reduceAdd, Nat.reduceSub, Nat.reduceMul, Nat.zero_add, Int.toNat_natCast, evK_go, reduceIte, decide_true, decide_false, Nat.reduceEqDiff, Nat.reduceLT, and_self, true_and, Int.zero_add, Int.natCast_nonneg, Int.natCast_inj]
        repeat refine OrH.l ?_
        refine ⟨DrawH.of follows_mixed (by kernel_rfl), ?_⟩
        simp (implicitDefEqProofs := false) (dsimp := false) only [beq_self_eq_true, hx, hP, nD, hPx, in2_callQ, hin, ↓cdK_true, ↓gdK_t, ↓gval_mk, ↓gvL_zero, ↓gvL_succ, ↓atK_H, ↓atH_map, ↓aw_ret, ↓Qseq_n, ↓Qret_r, ↓eval_tmp, ↓eval_int, ↓eval_func, ↓put_some, ↓bK_b, ↓iK_i, ↓ev_move, ↓ev_assign, ↓ev_pick, ↓ev_load, ↓ev_ia, ↓ldK_q, ↓iaK_l, ↓orH_T, isD_d, ↓fnK_f, ↓callKQ_H, ↓allT_nil, ↓allT_cons, ↓td_d, ↓ret_1, ↓h_nil, ↓h_cons, ↓ldH_n, ↓ldH_g, ↓q_call, ↓q_move, ↓q_assign, ↓q_pick, ↓q_load, ↓q_ia, ↓il_move, ↓il_assign, ↓il_pick, ↓il_load, ↓il_ia, ↓il_call, ↓st_tm, ↓cells_c, ↓hd_cons, ↓ty3, ↓sl28, List.getD_cons_zero, List.getD_cons_succ, List.set_cons_zero, List.set_cons_succ, List.append_nil, List.length_cons, List.length_nil, List.all_cons, List.all_nil, Bool.and_self, Bool.true_or, Nat.reduceAdd, Nat.reduceSub, Nat.reduceMul, Nat.zero_add, Int.toNat_natCast, evK_go, reduceIte, Nat.reduceEqDiff, Nat.reduceLT, and_self, Int.zero_add, Int.natCast_nonneg]
    · have he : ¬ part m L x = part m L y := fun e => h1 (hiff.1 e).1
      simp (implicitDefEqProofs := false) (dsimp := false) only [hx, hy, hP, hW, hxy, liD, mapP_get, hasR_call, hl62, h1, nD, hPx, hPy, he, ↓bo_eql, ↓cdK_false, ↓gdK_t, ↓gdK_f, ↓gval_mk, ↓gvL_zero, ↓gvL_succ, ↓atK_H, ↓atH_map, ↓aw_seq, ↓aw_draw, ↓Qseq_n, ↓ops_nil, ↓ops_cons, ↓ops_guard, ↓eval_tmp, ↓eval_bool, ↓eval_func, ↓put_some, ↓bK_b, ↓iK_i, ↓ev_move, ↓ev_load, ↓ev_bin, ↓ev_ia, ↓binE_i, ↓bi_eql, ↓ldK_q, ↓iaK_l, ↓op_move, ↓op_assign, ↓op_pick, ↓op_load, ↓op_ia, ↓op_call, isD_d, ↓fnK_f, ↓call_H, ↓callK_H, ↓allT_nil, ↓allT_cons, ↓td_d, ↓draw_H, ↓h_cons, ↓ldH_n, ↓ldH_g, ↓q_move, ↓q_load, ↓q_bin, ↓q_ia, ↓il_move, ↓il_load, ↓il_bin, ↓il_ia, ↓st_tm, ↓cells_c, ↓cells_l, ↓hd_cons, ↓ty3, ↓ty28, ↓sl28, ↓sl44, List.getD_cons_zero, List.getD_cons_succ, List.set_cons_zero, List.set_cons_succ, List.append_nil, List.length_cons, List.length_nil, List.length_map, List.all_cons, List.all_nil, Bool.true_and, Bool.and_self, Bool.true_or, Nat.reduceAdd, Nat.reduceSub, Nat.reduceMul, Nat.zero_add, Int.toNat_natCast, evK_go, reduceIte, decide_false, Nat.reduceEqDiff, Nat.reduceLT, and_self, true_and, Int.zero_add, Int.natCast_nonneg, Int.natCast_inj]
      repeat refine OrH.l ?_
      refine ⟨DrawH.of follows_mixed (by kernel_rfl), ?_⟩
      simp (implicitDefEqProofs := false) (dsimp := false) only [beq_self_eq_true, hx, hP, nD, hPx, in2_callQ, hin, ↓cdK_true, ↓gdK_t, ↓gval_mk, ↓gvL_zero, ↓gvL_succ, ↓atK_H, ↓atH_map, ↓aw_ret, ↓Qseq_n, ↓Qret_r, ↓eval_tmp, ↓eval_int, ↓eval_func, ↓put_some, ↓bK_b, ↓iK_i, ↓ev_move, ↓ev_assign, ↓ev_pick, ↓ev_load, ↓ev_ia, ↓ldK_q, ↓iaK_l, ↓orH_T, isD_d, ↓fnK_f, ↓callKQ_H, ↓allT_nil, ↓allT_cons, ↓td_d, ↓ret_1, ↓h_nil, ↓h_cons, ↓ldH_n, ↓ldH_g, ↓q_call, ↓q_move, ↓q_assign, ↓q_pick, ↓q_load, ↓q_ia, ↓il_move, ↓il_assign, ↓il_pick, ↓il_load, ↓il_ia, ↓il_call, ↓st_tm, ↓cells_c, ↓hd_cons, ↓ty3, ↓sl28, List.getD_cons_zero, List.getD_cons_succ, List.set_cons_zero, List.set_cons_succ, List.append_nil, List.length_cons, List.length_nil, List.all_cons, List.all_nil, Bool.and_self, Bool.true_or, Nat.reduceAdd, Nat.reduceSub, Nat.reduceMul, Nat.zero_add, Int.toNat_natCast, evK_go, reduceIte, Nat.reduceEqDiff, Nat.reduceLT, and_self, Int.zero_add, Int.natCast_nonneg]
end Go.Proofs

namespace Go.Proofs
open Go.Aw
set_option linter.unusedSimpArgs false
set_option maxRecDepth 10000
def cfL : List (Int × Int) := [(0, 1), (1, 2), (0, 2)]
theorem cf1_spec  : FnD Try.prog 37 [I .i64 3, .l [.s [I .i64 0, I .i64 1], .s [I .i64 1, I .i64 2], .s [I .i64 0, I .i64 2]]] (.t [.l [.l [I .i64 1, I .i64 2], .l [I .i64 2], .l []], erD 0]) := by
  have h := call_spec 3 cfL (by decide)
  rw [show closeAll 3 cfL = [[1, 2], [2], []] by decide +kernel, show chk 3 cfL = 0 by decide +kernel] at h
  exact h
theorem cf1_call  (pure : Bool) (σ : St) (dst : Option Tmp) (K : St → Prop) : CallH Try.prog 37 [I .i64 3, .l [.s [I .i64 0, I .i64 1], .s [I .i64 1, I .i64 2], .s [I .i64 0, I .i64 2]]] pure σ dst (.mk : Hid K) = OrH ((pure || D.flat (.t [.l [.l [I .i64 1, I .i64 2], .l [I .i64 2], .l []], erD 0])) = true ∧ evK (σ.put dst (.d (.t [.l [.l [I .i64 1, I .i64 2], .l [I .i64 2], .l []], erD 0]))) (.mk : Hid K)) (.mk : Hid (CallH Try.prog 37 [I .i64 3, .l [.s [I .i64 0, I .i64 1], .s [I .i64 1, I .i64 2], .s [I .i64 0, I .i64 2]]] pure σ dst (.mk : Hid K))) := CallH.eq0 (cf1_spec ) pure σ dst K
theorem cf1_callQ  (pure : Bool) (C : V → Prop) : CallQ Try.prog 37 [I .i64 3, .l [.s [I .i64 0, I .i64 1], .s [I .i64 1, I .i64 2], .s [I .i64 0, I .i64 2]]] pure (.mk : Hid C) = OrH ((pure || D.flat (.t [.l [.l [I .i64 1, I .i64 2], .l [I .i64 2], .l []], erD 0])) = true ∧ evK (V.d (.t [.l [.l [I .i64 1, I .i64 2], .l [I .i64 2], .l []], erD 0])) (.mk : Hid C)) (.mk : Hid (CallQ Try.prog 37 [I .i64 3, .l [.s [I .i64 0, I .i64 1], .s [I .i64 1, I .i64 2], .s [I .i64 0, I .i64 2]]] pure (.mk : Hid C))) := CallQ.eq0 (cf1_spec ) pure C
theorem cf2_spec  : FnD Try.prog 40 [I .i64 3, .l [.s [I .i64 0, I .i64 1], .s [I .i64 1, I .i64 2], .s [I .i64 0, I .i64 2]]] (.t [.l [.s [I .i64 0, I .i64 1], .s [I .i64 1, I .i64 2]], erD 0]) := by
  have h := few_spec 3 cfL (by decide)
  rw [show fewR 3 cfL = [(0, 1), (1, 2)] by decide +kernel, show topoE 3 cfL = 0 by decide +kernel] at h
  exact h
theorem cf2_call  (pure : Bool) (σ : St) (dst : Option Tmp) (K : St → Prop) : CallH Try.prog 40 [I .i64 3, .l [.s [I .i64 0, I .i64 1], .s [I .i64 1, I .i64 2], .s [I .i64 0, I .i64 2]]] pure σ dst (.mk : Hid K) = OrH ((pure || D.flat (.t [.l [.s [I .i64 0, I .i64 1], .s [I .i64 1, I .i64 2]], erD 0])) = true ∧ evK (σ.put dst (.d (.t [.l [.s [I .i64 0, I .i64 1], .s [I .i64 1, I .i64 2]], erD 0]))) (.mk : Hid K)) (.mk : Hid (CallH Try.prog 40 [I .i64 3, .l [.s [I .i64 0, I .i64 1], .s [I .i64 1, I .i64 2], .s [I .i64 0, I .i64 2]]] pure σ dst (.mk : Hid K))) := CallH.eq0 (cf2_spec ) pure σ dst K
theorem cf2_callQ  (pure : Bool) (C : V → Prop) : CallQ Try.prog 40 [I .i64 3, .l [.s [I .i64 0, I .i64 1], .s [I .i64 1, I .i64 2], .s [I .i64 0, I .i64 2]]] pure (.mk : Hid C) = OrH ((pure || D.flat (.t [.l [.s [I .i64 0, I .i64 1], .s [I .i64 1, I .i64 2]], erD 0])) = true ∧ evK (V.d (.t [.l [.s [I .i64 0, I .i64 1], .s [I .i64 1, I .i64 2]], erD 0])) (.mk : Hid C)) (.mk : Hid (CallQ Try.prog 40 [I .i64 3, .l [.s [I .i64 0, I .i64 1], .s [I .i64 1, I .i64 2], .s [I .i64 0, I .i64 2]]] pure (.mk : Hid C))) := CallQ.eq0 (cf2_spec ) pure C
theorem cf3_spec  : FnD Try.prog 39 [.l [.l [I .i64 1, I .i64 2], .l [I .i64 2], .l []], .l [.l [I .i64 1, I .i64 2], .l [I .i64 2], .l []]] (Bo true) := by
  have h := erows_spec [[1, 2], [2], []] [[1, 2], [2], []] (by decide)
  exact h
theorem cf3_call  (pure : Bool) (σ : St) (dst : Option Tmp) (K : St → Prop) : CallH Try.prog 39 [.l [.l [I .i64 1, I .i64 2], .l [I .i64 2], .l []], .l [.l [I .i64 1, I .i64 2], .l [I .i64 2], .l []]] pure σ dst (.mk : Hid K) = OrH ((pure || D.flat (Bo true)) = true ∧ evK (σ.put dst (.d (Bo true))) (.mk : Hid K)) (.mk : Hid (CallH Try.prog 39 [.l [.l [I .i64 1, I .i64 2], .l [I .i64 2], .l []], .l [.l [I .i64 1, I .i64 2], .l [I .i64 2], .l []]] pure σ dst (.mk : Hid K))) := CallH.eq0 (cf3_spec ) pure σ dst K
theorem cf3_callQ  (pure : Bool) (C : V → Prop) : CallQ Try.prog 39 [.l [.l [I .i64 1, I .i64 2], .l [I .i64 2], .l []], .l [.l [I .i64 1, I .i64 2], .l [I .i64 2], .l []]] pure (.mk : Hid C) = OrH ((pure || D.flat (Bo true)) = true ∧ evK (V.d (Bo true)) (.mk : Hid C)) (.mk : Hid (CallQ Try.prog 39 [.l [.l [I .i64 1, I .i64 2], .l [I .i64 2], .l []], .l [.l [I .i64 1, I .i64 2], .l [I .i64 2], .l []]] pure (.mk : Hid C))) := CallQ.eq0 (cf3_spec ) pure C
theorem cf4_spec  : FnD Try.prog 61 [.l [.s [I .i64 0, I .i64 1], .s [I .i64 1, I .i64 2]], .l [.s [I .i64 0, I .i64 1], .s [I .i64 1, I .i64 2]]] (Bo true) := by
  have h := elines_spec [(0, 1), (1, 2)] [(0, 1), (1, 2)] (by decide)
  exact h
theorem cf4_call  (pure : Bool) (σ : St) (dst : Option Tmp) (K : St → Prop) : CallH Try.prog 61 [.l [.s [I .i64 0, I .i64 1], .s [I .i64 1, I .i64 2]], .l [.s [I .i64 0, I .i64 1], .s [I .i64 1, I .i64 2]]] pure σ dst (.mk : Hid K) = OrH ((pure || D.flat (Bo true)) = true ∧ evK (σ.put dst (.d (Bo true))) (.mk : Hid K)) (.mk : Hid (CallH Try.prog 61 [.l [.s [I .i64 0, I .i64 1], .s [I .i64 1, I .i64 2]], .l [.s [I .i64 0, I .i64 1], .s [I .i64 1, I .i64 2]]] pure σ dst (.mk : Hid K))) := CallH.eq0 (cf4_spec ) pure σ dst K
theorem cf4_callQ  (pure : Bool) (C : V → Prop) : CallQ Try.prog 61 [.l [.s [I .i64 0, I .i64 1], .s [I .i64 1, I .i64 2]], .l [.s [I .i64 0, I .i64 1], .s [I .i64 1, I .i64 2]]] pure (.mk : Hid C) = OrH ((pure || D.flat (Bo true)) = true ∧ evK (V.d (Bo true)) (.mk : Hid C)) (.mk : Hid (CallQ Try.prog 61 [.l [.s [I .i64 0, I .i64 1], .s [I .i64 1, I .i64 2]], .l [.s [I .i64 0, I .i64 1], .s [I .i64 1, I .i64 2]]] pure (.mk : Hid C))) := CallQ.eq0 (cf4_spec ) pure C
theorem cfact_spec  : FnD Try.prog 36 [] (Bo true) := by
  refine FnD.go Try.func36 rfl rfl Try.results36 Try.ntmps36 ?_
  simp (implicitDefEqProofs := false) (dsimp := false) only [↓aw_seq, ↓aw_reg, ↓Qseq_n, ↓ops_nil, ↓ops_cons, ↓eval_tmp, ↓eval_int, ↓eval_bool, ↓eval_func, ↓put_some, ↓dK_d, ↓op_move, ↓op_assign, ↓op_build, ↓op_call, isD_d, ↓fnK_f, ↓call_H, ↓callK_H, ↓allT_nil, ↓allT_cons, ↓allD_nil, ↓allD_cons, ↓td_d, ↓cells_c, ↓cells_s, ↓one_i, ↓bs_, ↓op_bs, ↓bsL_f, ↓stored_mk, ↓sl_nil, ↓sl_cons, ↓sT_assign, ↓sT_build, ↓sT_bs, ↓vsz_agg, ↓inO_3, ↓fm_nil, ↓fm_cons, ↓sl22, ↓ty35, ↓zb35, ↓bd35, List.getD_cons_zero, List.getD_cons_succ, List.set_cons_zero, List.set_cons_succ, List.cons_append, List.nil_append, List.append_nil, List.map_cons, List.map_nil, List.length_cons, List.length_nil, List.all_cons, List.all_nil, Bool.true_and, Bool.and_self, Bool.or_false, Nat.reduceAdd, Nat.reduceSub, Nat.reduceMul, Nat.zero_add, List.replicate, evK_go, reduceIte, Nat.reduceEqDiff, Nat.reduceLT, and_self, true_and, Int.zero_add]
  simp (implicitDefEqProofs := false) (dsimp := false) only [cf1_call, cf2_call, cf3_call, cf4_call, eval_nilI, ↓er_eql, ↓cdK_true, ↓gdK_t, ↓gval_mk, ↓gvL_zero, ↓gvL_succ, ↓nthK_H, ↓nthH_zero, ↓nthH_succ, ↓aw_seq, ↓aw_ret, ↓aw_reg, ↓Qseq_n, ↓Qret_r, ↓ops_nil, ↓ops_cons, ↓ops_guard, ↓eval_tmp, ↓eval_int, ↓eval_func, ↓put_some, ↓bK_b, ↓dK_d, ↓tK_t, ↓op_move, ↓op_assign, ↓op_pick, ↓op_bin, ↓op_extract, ↓op_build, ↓op_call, ↓orH_T, isD_d, ↓fnK_f, ↓call_H, ↓callK_H, ↓allT_nil, ↓allT_cons, ↓allD_nil, ↓allD_cons, ↓td_d, ↓ret_1, ↓st_tm, ↓cells_c, ↓cells_s, ↓cells_l, ↓one_i, ↓one_l, ↓bs_, ↓op_bs, ↓bsL_f, ↓stored_mk, ↓sl_nil, ↓sl_cons, ↓sT_move, ↓sT_assign, ↓sT_pick, ↓sT_bin, ↓sT_build, ↓sT_bs, ↓sT_call, ↓vsz_int, ↓vsz_slice, ↓vsz_agg, ↓inO_1, ↓inO_2, ↓inO_3, ↓fm_nil, ↓fm_cons, ↓ty3, ↓zb3, ↓sl22, ↓ty28, ↓sl28, ↓zb28, ↓ty35, ↓zb35, ↓bd35, ↓sl44, List.getD_cons_zero, List.getD_cons_succ, List.set_cons_zero, List.set_cons_succ, List.cons_append, List.nil_append, List.append_nil, List.map_cons, List.map_nil, List.length_cons, List.length_nil, List.all_cons, List.all_nil, Bool.and_true, Bool.true_and, Bool.and_self, Bool.true_or, Bool.or_false, Nat.reduceAdd, Nat.reduceSub, Nat.reduceMul, Nat.zero_add, evK_go, reduceIte, decide_true, Nat.reduceEqDiff, Nat.reduceLT, and_self, true_and, and_true, Int.zero_add]
  exact ⟨⟨rfl, by decide⟩, OrH.l (OrH.l (OrH.l (OrH.l ⟨by decide, by decide, ⟨rfl, by decide⟩, by decide, OrH.l (OrH.l ⟨rfl, by decide⟩)⟩)))⟩
theorem cfact_call  (pure : Bool) (σ : St) (dst : Option Tmp) (K : St → Prop) : CallH Try.prog 36 [] pure σ dst (.mk : Hid K) = OrH ((pure || D.flat (Bo true)) = true ∧ evK (σ.put dst (.d (Bo true))) (.mk : Hid K)) (.mk : Hid (CallH Try.prog 36 [] pure σ dst (.mk : Hid K))) := CallH.eq0 (cfact_spec ) pure σ dst K
theorem cfact_callQ  (pure : Bool) (C : V → Prop) : CallQ Try.prog 36 [] pure (.mk : Hid C) = OrH ((pure || D.flat (Bo true)) = true ∧ evK (V.d (Bo true)) (.mk : Hid C)) (.mk : Hid (CallQ Try.prog 36 [] pure (.mk : Hid C))) := CallQ.eq0 (cfact_spec ) pure C
end Go.Proofs

namespace Go.Proofs
open Go.Aw
set_option linter.unusedSimpArgs false
set_option maxRecDepth 10000
/-- What is known of where ways go. -/
structure CW (n : Int) (l : List (Int × Int)) (M : List (List Int)) (m : Nat) : Prop where
  n0 : n = (m : Int)
  hi : m ≤ 8
  llen : l.length ≤ 24
  len : M.length = m
  sz : ∀ i : Nat, (M.getD i default).length ≤ 64
  line : ∀ p ∈ l, ∃ x y : Nat, p = ((x : Int), (y : Int)) ∧ x < m ∧ y < m ∧ x ≠ y ∧ (y : Int) ∈ M.getD x default
  pt : ∀ (a : Nat) (b : Int), b ∈ M.getD a default → ∃ c : Nat, b = (c : Int) ∧ c < m ∧ a < m
  tr : ∀ (a b : Nat) (c : Int), (b : Int) ∈ M.getD a default → c ∈ M.getD b default → c ∈ M.getD a default
theorem closeW {n : Int} {l : List (Int × Int)} (hc : chk n l = 0) : CW n l (closeAll n l) n.toNat := by
  have ok := chk_ok hc
  have e : closeAll n l = (war n.toNat (natL l)).map ptsI := if_pos hc
  have hk : ∀ (i : Nat) (j : Int), j ∈ (closeAll n l).getD i default ↔ ∃ c : Nat, j = (c : Int) ∧ Path1 (natL l) i c := fun i j => by
    rw [e, mapP_get]
    constructor
    · intro h
      obtain ⟨c, hc1, rfl⟩ := List.mem_map.1 h
      exact ⟨c, rfl, (war_bit ok.good _ _).1 ((pts_mem _ _).1 hc1).2⟩
    · rintro ⟨c, rfl, h⟩
      have := (h.lt ok.good).2
      have := ok.hi
      exact (ptsI_mem _ _).2 ⟨by omega, (war_bit ok.good _ _).2 h⟩
  refine ⟨ok.n0, ok.hi, ok.len, by rw [e, List.length_map]; exact war_len ok.good, fun i => by rw [e, mapP_get]; exact ptsI_len _, fun p hp => ?_, fun a b hb => ?_, fun a b c hb hc => ?_⟩
  · have h1 := ok.rng p hp
    have h2 : natP p ∈ natL l := List.mem_map.2 ⟨p, hp, rfl⟩
    have h3 := ok.good _ h2
    refine ⟨p.1.toNat, p.2.toNat, ?_, h3.1, h3.2, ok.ne _ h2, ?_⟩
    · rw [Int.toNat_of_nonneg h1.1, Int.toNat_of_nonneg h1.2]
    · exact (hk _ _).2 ⟨_, rfl, p.2.toNat, h2, .refl⟩
  · obtain ⟨c, rfl, h⟩ := (hk _ _).1 hb
    have := h.lt ok.good
    exact ⟨c, rfl, this.2, this.1⟩
  · obtain ⟨x, hx, h1⟩ := (hk _ _).1 hb
    obtain ⟨y, rfl, h2⟩ := (hk _ _).1 hc
    cases Int.ofNat_inj.1 hx
    exact (hk _ _).2 ⟨y, rfl, h1.trans h2.path⟩
theorem closeW_more {n : Int} {l : List (Int × Int)} (hc : chk n l = 0) {a b : Nat} (hb : (b : Int) ∈ (closeAll n l).getD a default) (hab : a ≠ b) (h24 : l.length < 24) :
    chk n (l ++ [((a : Int), (b : Int))]) = 0 ∧ closeAll n (l ++ [((a : Int), (b : Int))]) = closeAll n l := by
  have ok := chk_ok hc
  have cw := closeW hc
  obtain ⟨c, h1, h2, h3⟩ := cw.pt a b hb
  cases Int.ofNat_inj.1 h1
  have n0 := ok.n0
  have h0 : chk n (l ++ [((a : Int), (b : Int))]) = 0 := by
    rw [chk_iff] at hc ⊢
    refine ⟨hc.1, by simp; omega, fun p hp => ?_⟩
    rcases List.mem_append.1 hp with hp | hp
    · exact hc.2.2 p hp
    · rw [List.mem_singleton.1 hp, lineErr_iff]
      exact ⟨⟨by simp, by simp; omega⟩, ⟨by simp, by simp; omega⟩, by simp; omega⟩
  refine ⟨h0, ?_⟩
  have ok2 := chk_ok h0
  have hb' := hb
  unfold closeAll
  rw [if_pos h0, if_pos hc]
  have e : natL (l ++ [((a : Int), (b : Int))]) = natL l ++ [(a, b)] := by simp [natL, natP]
  have hg2 := ok2.good
  rw [e] at hg2 ⊢
  have hp : Path1 (natL l) a b := by
    have e : closeAll n l = (war n.toNat (natL l)).map ptsI := if_pos hc
    rw [e, mapP_get] at hb
    exact (war_bit ok.good _ _).1 ((ptsI_mem _ _).1 hb).2
  have hw : war n.toNat (natL l ++ [(a, b)]) = war n.toNat (natL l) := by
    refine List.ext_getElem (by rw [war_len hg2, war_len ok.good]) fun i h1 h2 => ?_
    apply bits_eq
    intro j
    have g1 := war_bit hg2 i j
    have g2 := war_bit ok.good i j
    rw [List.getD_eq_getElem?_getD, List.getElem?_eq_getElem h1, Option.getD_some] at g1
    rw [List.getD_eq_getElem?_getD, List.getElem?_eq_getElem h2, Option.getD_some] at g2
    rw [Bool.eq_iff_iff, g1, g2]
    exact path1_more hp
  rw [hw]
theorem lCloseWays_spec (n : Int) (l : List (Int × Int)) (_hn : -9223372036854775808 ≤ n ∧ n ≤ 9223372036854775807) (hpre : l.length < 2 ^ 43) : FnD Try.prog 7 [I .i64 n, .l (l.map lnD)] (Bo true) := by
  have hl62 : l.length < 2 ^ 62 := by omega
  refine FnD.go Try.func7 rfl rfl Try.results7 Try.ntmps7 ?_
  simp (implicitDefEqProofs := false) (dsimp := false) only [↓aw_seq, ↓aw_reg, ↓Qseq_n, ↓ops_nil, ↓ops_cons, ↓eval_bool, ↓eval_func, ↓put_some, ↓op_assign, ↓op_call, isD_d, ↓fnK_f, ↓call_H, ↓callK_H, ↓allT_nil, ↓td_d, List.set_cons_zero, List.set_cons_succ, List.cons_append, List.nil_append, List.append_nil, List.map_cons, List.map_nil, List.length_cons, List.length_nil, List.all_nil, Bool.and_self, Nat.reduceAdd, Nat.reduceSub, Nat.reduceMul, Nat.zero_add, List.replicate, evK_go, reduceIte, Nat.reduceEqDiff, Nat.reduceLT, and_self, Int.zero_add]
  simp (implicitDefEqProofs := false) (dsimp := false) only [cfact_call, call_call, hl62, eval_nilI, ↓er_neq, ↓cdK_false, ↓cdK_not, ↓nthK_H, ↓nthH_zero, ↓nthH_succ, ↓aw_cond, ↓aw_seq, ↓aw_skip, ↓aw_reg, ↓Qseq_n, ↓ops_nil, ↓ops_cons, ↓eval_tmp, ↓eval_func, ↓put_some, ↓bK_b, ↓tK_t, ↓op_move, ↓op_assign, ↓op_bin, ↓op_not, ↓op_extract, ↓op_call, isD_d, ↓fnK_f, ↓call_H, ↓callK_H, ↓allT_nil, ↓allT_cons, ↓td_d, List.getD_cons_zero, List.getD_cons_succ, List.set_cons_zero, List.set_cons_succ, List.append_nil, List.all_cons, List.all_nil, Bool.true_and, Bool.and_self, Bool.true_or, Nat.reduceAdd, Nat.reduceSub, Nat.reduceMul, evK_go, reduceIte, Bool.not_true, Nat.reduceEqDiff, Nat.reduceLT, and_self, true_and]
  refine OrH.l (OrH.l (OrH.l (OrH.l (cdK_dec (fun hc => ?_) (fun hc => ?_)))))
  rotate_left
  · have e1 : closeAll n l = [] := if_neg hc
    simp (implicitDefEqProofs := false) (dsimp := false) only [e1, ↓aw_seq, ↓aw_ret, ↓aw_reg, ↓Qseq_n, ↓Qseq_r, ↓Qret_r, ↓ops_nil, ↓ops_cons, ↓eval_tmp, ↓eval_int, ↓put_some, ↓lenK_l, ↓binE_i, ↓bi_eql, ↓op_move, ↓op_assign, ↓op_bin, ↓op_len, ↓td_d, ↓ret_1, ↓sl44, List.getD_cons_zero, List.getD_cons_succ, List.set_cons_zero, List.set_cons_succ, List.map_nil, List.length_nil, Nat.reduceAdd, Nat.reduceSub, Nat.reduceMul, evK_go, reduceIte, decide_true, Nat.reduceEqDiff, Nat.reduceLT, Int.cast_ofNat_Int]
  have cw := closeW hc
  have more : ∀ a b : Nat, (b : Int) ∈ (closeAll n l).getD a default → a ≠ b → l.length < 24 → chk n (l ++ [((a : Int), (b : Int))]) = 0 ∧ closeAll n (l ++ [((a : Int), (b : Int))]) = closeAll n l := fun a b h1 h2 h3 => closeW_more hc h1 h2 h3
  generalize hM : closeAll n l = M at cw more ⊢
  generalize n.toNat = m at cw
  have e0 := cw.n0
  have h8 := cw.hi
  have hML : ((M.length : Nat) : Int) = n := by rw [cw.len, e0]
  simp (implicitDefEqProofs := false) (dsimp := false) only [lines_call, hc, hl62, hML, ↓cdK_false, ↓gdK_f, ↓gval_mk, ↓gvL_zero, ↓gvL_succ, ↓aw_cond, ↓aw_seq, ↓aw_block, ↓aw_skip, ↓aw_loop, ↓aw_reg, ↓Qseq_n, ↓ops_nil, ↓ops_cons, ↓ops_guard, ↓eval_tmp, ↓eval_int, ↓eval_func, ↓put_some, ↓bK_b, ↓lenK_l, ↓binE_i, ↓bi_neq, ↓op_move, ↓op_assign, ↓op_pick, ↓op_bin, ↓op_len, ↓op_call, isD_d, ↓fnK_f, ↓call_H, ↓callK_H, ↓allT_nil, ↓allT_cons, ↓td_d, ↓st_tm, ↓sl44, List.getD_cons_zero, List.getD_cons_succ, List.set_cons_zero, List.set_cons_succ, List.append_nil, List.length_map, List.all_cons, List.all_nil, Bool.true_and, Bool.and_self, Bool.true_or, Nat.reduceAdd, Nat.reduceSub, Nat.reduceMul, evK_go, reduceIte, decide_true, Bool.not_true, Nat.reduceEqDiff, Nat.reduceLT, and_self, true_and]
  refine OrH.l (OrH.l ?_)
  refine loopW (fun k : Nat => { tm := slots 139 [(0, .d (I .i64 n)), (1, .d (.l (l.map lnD))), (6, .d (.l (M.map liD))), (8, .d (I .i64 k))], bx := [], rw := [] })
    (fun k => k ≤ l.length) (fun k => l.length - k) 0 (by simp) ?_ ?_
  · refine Wkn.of [] [] ?_
    simp (implicitDefEqProofs := false) (dsimp := false) only [List.set_cons_zero, List.set_cons_succ, Bool.and_self, Nat.reduceAdd, Nat.reduceSub, Nat.reduceMul, List.replicate, evK_go, reduceIte, Nat.reduceEqDiff, Nat.reduceLT, and_self, List.foldl_cons, List.foldl_nil, Int.cast_ofNat_Int, slots, wkL_nil, wkL_cons, wkB_nil, wkR_nil, wkV_j, wkV_d, frz_d, reduceCtorEq]
  · intro k hk
    simp (implicitDefEqProofs := false) (dsimp := false) only [slots, ↓aw_cond, ↓aw_seq, ↓aw_reg, ↓Qseq_n, ↓ops_nil, ↓ops_cons, ↓eval_tmp, ↓put_some, ↓bK_b, ↓lenK_l, ↓binE_i, ↓bi_lss, ↓op_move, ↓op_bin, ↓op_len, ↓sl22, List.getD_cons_zero, List.getD_cons_succ, List.set_cons_zero, List.set_cons_succ, List.length_map, Nat.reduceAdd, Nat.reduceSub, Nat.reduceMul, List.replicate, evK_go, reduceIte, Nat.reduceEqDiff, Nat.reduceLT, List.foldl_cons, List.foldl_nil, Int.ofNat_lt]
    refine cdK_dec (fun h => ?_) (fun h => ?_)
    · obtain ⟨x, y, hxy, hx, hy, hne, hmem⟩ := cw.line _ (getD_mem h)
      have hx' : x < M.length := by rw [cw.len]; exact hx
      have hs := cw.sz x
      have hs' : (M.getD x default).length < 2 ^ 62 := by omega
      simp (implicitDefEqProofs := false) (dsimp := false) only [h, lnD, hxy, hx', liD, hasR_callQ, hs', hmem, ↓cdK_false, ↓atK_H, ↓atH_map, ↓aw_cond, ↓aw_seq, ↓aw_block, ↓aw_skip, ↓aw_reg, ↓aw_draw, ↓Qseq_n, ↓Qblk_n, ↓ops_nil, ↓ops_cons, ↓eval_tmp, ↓eval_int, ↓eval_func, ↓put_some, ↓bK_b, ↓iK_i, ↓ev_move, ↓ev_load, ↓ev_not, ↓ev_fa, ↓ev_ia, ↓binE_i, ↓bi_add, ↓in_i64, ↓ldK_q, ↓faK_q, ↓iaK_l, ↓op_move, ↓op_assign, ↓op_bin, isD_d, ↓fnK_f, ↓callKQ_H, ↓allT_nil, ↓allT_cons, ↓td_d, ↓draw_H, ↓h_nil, ↓h_cons, ↓ldH_n, ↓q_call, ↓q_move, ↓q_load, ↓q_un, ↓q_fa, ↓q_ia, ↓il_move, ↓il_load, ↓il_un, ↓il_fa, ↓il_ia, ↓il_call, ↓cells_s, ↓cells_l, ↓hd_cons, ↓ty3, ↓sl22, ↓ty28, ↓ty35, ↓fd35_0, ↓fd35_1, ↓sl44, List.getD_cons_zero, List.getD_cons_succ, List.set_cons_zero, List.set_cons_succ, List.append_nil, List.length_cons, List.length_nil, List.all_cons, List.all_nil, Bool.true_and, Bool.and_self, Bool.true_or, Nat.reduceAdd, Nat.reduceSub, Nat.reduceMul, Nat.zero_add, Int.toNat_natCast, evK_go, reduceIte, decide_true, Bool.not_true, Nat.reduceEqDiff, Nat.reduceLT, and_self, true_and, Int.zero_add, List.drop_zero, List.drop_succ_cons, Int.natCast_nonneg]
      refine OrH.l ⟨DrawH.of follows_mixed (by kernel_rfl), ?_⟩
      (repeat refine OrH.l ?_)
      refine ⟨by omega, k + 1, by omega, by omega, ?_⟩
      refine Wkn.of [] [] ?_; simp (implicitDefEqProofs := false) (dsimp := false) only [List.set_cons_zero, List.set_cons_succ, Bool.and_self, Nat.reduceAdd, Nat.reduceSub, Nat.reduceMul, List.replicate, evK_go, reduceIte, Nat.reduceEqDiff, Nat.reduceLT, and_self, List.foldl_cons, List.foldl_nil, Int.cast_ofNat_Int, Int.natCast_add, slots, wkL_nil, wkL_cons, wkB_nil, wkR_nil, wkV_j, wkV_d, frz_d, reduceCtorEq]
    · simp (implicitDefEqProofs := false) (dsimp := false) only [↓aw_seq, ↓aw_block, ↓aw_exit, ↓aw_loop, ↓aw_reg, ↓Qseq_n, ↓Qseq_x, ↓Qblk_x, ↓ops_nil, ↓ops_cons, ↓eval_int, ↓put_some, ↓op_assign, List.set_cons_zero, List.set_cons_succ, Nat.reduceAdd, Nat.reduceSub, Nat.reduceMul, evK_go, reduceIte, Nat.reduceEqDiff, Nat.reduceLT]
      refine loopW (fun a : Nat => { tm := slots 139 [(0, .d (I .i64 n)), (1, .d (.l (l.map lnD))), (6, .d (.l (M.map liD))), (9, .d (I .i64 a))], bx := [], rw := [] })
        (fun a => a ≤ m) (fun a => m - a) 0 (by simp) ?_ ?_
      · refine Wkn.of [] [] ?_; simp (implicitDefEqProofs := false) (dsimp := false) only [List.set_cons_zero, List.set_cons_succ, Bool.and_self, Nat.reduceAdd, Nat.reduceSub, Nat.reduceMul, List.replicate, evK_go, reduceIte, Nat.reduceEqDiff, Nat.reduceLT, and_self, List.foldl_cons, List.foldl_nil, Int.cast_ofNat_Int, slots, wkL_nil, wkL_cons, wkB_nil, wkR_nil, wkV_j, wkV_d, frz_d, reduceCtorEq]
      · intro a ha
        simp (implicitDefEqProofs := false) (dsimp := false) only [slots, ↓aw_cond, ↓aw_seq, ↓aw_reg, ↓Qseq_n, ↓ops_nil, ↓ops_cons, ↓eval_tmp, ↓put_some, ↓bK_b, ↓binE_i, ↓bi_lss, ↓op_move, ↓op_bin, List.getD_cons_zero, List.getD_cons_succ, List.set_cons_zero, List.set_cons_succ, Nat.reduceAdd, Nat.reduceSub, Nat.reduceMul, List.replicate, evK_go, reduceIte, Nat.reduceEqDiff, Nat.reduceLT, List.foldl_cons, List.foldl_nil]
        refine cdK_dec (fun h1 => ?_) (fun h1 => ?_)
        · have ham : a < m := by omega
          have haM : a < M.length := by rw [cw.len]; exact ham
          have hsz := cw.sz a
          simp (implicitDefEqProofs := false) (dsimp := false) only [↓aw_seq, ↓aw_block, ↓aw_skip, ↓aw_loop, ↓aw_reg, ↓Qseq_n, ↓ops_nil, ↓ops_cons, ↓eval_int, ↓put_some, ↓op_assign, List.set_cons_zero, List.set_cons_succ, Nat.reduceAdd, Nat.reduceSub, Nat.reduceMul, evK_go, reduceIte, Nat.reduceEqDiff, Nat.reduceLT]
          refine loopW (fun i : Nat => { tm := slots 139 [(0, .d (I .i64 n)), (1, .d (.l (l.map lnD))), (6, .d (.l (M.map liD))), (9, .d (I .i64 a)), (10, .d (I .i64 i))], bx := [], rw := [] })
            (fun i => i ≤ (M.getD a default).length) (fun i => (M.getD a default).length - i) 0 (by simp) ?_ ?_
          · refine Wkn.of [] [] ?_; simp (implicitDefEqProofs := false) (dsimp := false) only [List.set_cons_zero, List.set_cons_succ, Bool.and_self, Nat.reduceAdd, Nat.reduceSub, Nat.reduceMul, List.replicate, evK_go, reduceIte, Nat.reduceEqDiff, Nat.reduceLT, and_self, List.foldl_cons, List.foldl_nil, Int.cast_ofNat_Int, slots, wkL_nil, wkL_cons, wkB_nil, wkR_nil, wkV_j, wkV_d, frz_d, reduceCtorEq]
          · intro i hi
            simp (implicitDefEqProofs := false) (dsimp := false) only [slots, haM, liD, ↓atK_H, ↓atH_map, ↓aw_cond, ↓aw_seq, ↓aw_reg, ↓Qseq_n, ↓ops_nil, ↓ops_cons, ↓eval_tmp, ↓put_some, ↓bK_b, ↓iK_i, ↓lenK_l, ↓binE_i, ↓bi_lss, ↓ldK_q, ↓iaK_l, ↓op_move, ↓op_load, ↓op_bin, ↓op_ia, ↓op_len, ↓cells_l, ↓hd_cons, ↓ty28, ↓sl28, ↓sl44, List.getD_cons_zero, List.getD_cons_succ, List.set_cons_zero, List.set_cons_succ, List.length_cons, List.length_nil, List.length_map, Bool.true_and, Nat.reduceAdd, Nat.reduceSub, Nat.reduceMul, Nat.zero_add, Int.toNat_natCast, List.replicate, evK_go, reduceIte, Nat.reduceEqDiff, Nat.reduceLT, true_and, Int.zero_add, List.foldl_cons, List.foldl_nil, Int.ofNat_lt, Int.natCast_nonneg]
            refine cdK_dec (fun h2 => ?_) (fun h2 => ?_)
            · have hb := getD_mem h2
              obtain ⟨b, hb1, hb2, _⟩ := cw.pt a _ hb
              have hin : inB (b : Int) 0 (n - 1) = true := inB_iff.2 ⟨by omega, by omega⟩
              have hbM : b < M.length := by rw [cw.len]; exact hb2
              have hszb := cw.sz b
              rw [hb1] at hb
              simp (implicitDefEqProofs := false) (dsimp := false) only [haM, h2, hb1, liD, in2_call, hin, ↓cdK_false, ↓atK_H, ↓atH_map, ↓aw_cond, ↓aw_seq, ↓aw_block, ↓aw_skip, ↓aw_loop, ↓aw_reg, ↓Qseq_n, ↓ops_nil, ↓ops_cons, ↓eval_tmp, ↓eval_int, ↓eval_func, ↓put_some, ↓bK_b, ↓iK_i, ↓binE_i, ↓bi_sub, ↓in_i64, ↓ldK_q, ↓iaK_l, ↓op_move, ↓op_assign, ↓op_load, ↓op_bin, ↓op_not, ↓op_ia, ↓op_call, isD_d, ↓fnK_f, ↓call_H, ↓callK_H, ↓allT_nil, ↓allT_cons, ↓td_d, ↓cells_c, ↓cells_l, ↓hd_cons, ↓ty3, ↓ty28, ↓sl28, ↓sl44, List.getD_cons_zero, List.getD_cons_succ, List.set_cons_zero, List.set_cons_succ, List.append_nil, List.length_cons, List.length_nil, List.all_cons, List.all_nil, Bool.true_and, Bool.and_self, Bool.true_or, Nat.reduceAdd, Nat.reduceSub, Nat.reduceMul, Nat.zero_add, Int.toNat_natCast, evK_go, reduceIte, decide_true, Bool.not_true, Nat.reduceEqDiff, Nat.reduceLT, and_self, true_and, Int.zero_add, Int.natCast_nonneg]
              refine ⟨by omega, OrH.l (OrH.l ?_)⟩
              refine loopW (fun j : Nat => { tm := slots 139 [(0, .d (I .i64 n)), (1, .d (.l (l.map lnD))), (6, .d (.l (M.map liD))), (9, .d (I .i64 a)), (10, .d (I .i64 i)), (11, .d (I .i64 b)), (12, .d (I .i64 j))], bx := [], rw := [] })
                (fun j => j ≤ (M.getD b default).length) (fun j => (M.getD b default).length - j) 0 (by simp) ?_ ?_
              · refine Wkn.of [] [] ?_; simp (implicitDefEqProofs := false) (dsimp := false) only [List.set_cons_zero, List.set_cons_succ, Bool.and_self, Nat.reduceAdd, Nat.reduceSub, Nat.reduceMul, List.replicate, evK_go, reduceIte, Nat.reduceEqDiff, Nat.reduceLT, and_self, List.foldl_cons, List.foldl_nil, Int.cast_ofNat_Int, slots, wkL_nil, wkL_cons, wkB_nil, wkR_nil, wkV_j, wkV_d, frz_d, reduceCtorEq]
              · intro j hj
                simp (implicitDefEqProofs := false) (dsimp := false) only [slots, hbM, liD, ↓atK_H, ↓atH_map, ↓aw_cond, ↓aw_seq, ↓aw_reg, ↓Qseq_n, ↓ops_nil, ↓ops_cons, ↓eval_tmp, ↓put_some, ↓bK_b, ↓iK_i, ↓lenK_l, ↓binE_i, ↓bi_lss, ↓ldK_q, ↓iaK_l, ↓op_move, ↓op_load, ↓op_bin, ↓op_ia, ↓op_len, ↓cells_l, ↓hd_cons, ↓ty28, ↓sl28, ↓sl44, List.getD_cons_zero, List.getD_cons_succ, List.set_cons_zero, List.set_cons_succ, List.length_cons, List.length_nil, List.length_map, Bool.true_and, Nat.reduceAdd, Nat.reduceSub, Nat.reduceMul, Nat.zero_add, Int.toNat_natCast, List.replicate, evK_go, reduceIte, Nat.reduceEqDiff, Nat.reduceLT, true_and, Int.zero_add, List.foldl_cons, List.foldl_nil, Int.ofNat_lt, Int.natCast_nonneg]
                refine cdK_dec (fun h3 => ?_) (fun h3 => ?_)
                · have hjm := cw.tr a b _ hb (getD_mem h3)
                  have hs1 : (M.getD a default).length < 2 ^ 62 := by omega
                  simp (implicitDefEqProofs := false) (dsimp := false) only [haM, hbM, h3, liD, hasR_callQ, hs1, hjm, ↓cdK_false, ↓atK_H, ↓atH_map, ↓aw_cond, ↓aw_seq, ↓aw_block, ↓aw_skip, ↓aw_reg, ↓aw_draw, ↓Qseq_n, ↓Qblk_n, ↓ops_nil, ↓ops_cons, ↓eval_tmp, ↓eval_int, ↓eval_func, ↓put_some, ↓bK_b, ↓iK_i, ↓ev_move, ↓ev_load, ↓ev_not, ↓ev_ia, ↓binE_i, ↓bi_add, ↓in_i64, ↓ldK_q, ↓iaK_l, ↓op_move, ↓op_assign, ↓op_bin, isD_d, ↓fnK_f, ↓callKQ_H, ↓allT_nil, ↓allT_cons, ↓td_d, ↓draw_H, ↓h_nil, ↓h_cons, ↓ldH_n, ↓q_call, ↓q_move, ↓q_load, ↓q_un, ↓q_ia, ↓il_move, ↓il_load, ↓il_un, ↓il_ia, ↓il_call, ↓cells_c, ↓cells_l, ↓hd_cons, ↓ty3, ↓ty28, ↓sl28, ↓sl44, List.getD_cons_zero, List.getD_cons_succ, List.set_cons_zero, List.set_cons_succ, List.append_nil, List.length_cons, List.length_nil, List.all_cons, List.all_nil, Bool.true_and, Bool.and_self, Bool.true_or, Nat.reduceAdd, Nat.reduceSub, Nat.reduceMul, Nat.zero_add, Int.toNat_natCast, evK_go, reduceIte, decide_true, Bool.not_true, Nat.reduceEqDiff, Nat.reduceLT, and_self, true_and, Int.zero_add, Int.natCast_nonneg]
                  refine OrH.l ⟨DrawH.of follows_mixed (by kernel_rfl), ?_⟩
                  (repeat refine OrH.l ?_)
                  refine ⟨by omega, j + 1, by omega, by omega, ?_⟩
                  refine Wkn.of [] [] ?_; simp (implicitDefEqProofs := false) (dsimp := false) only [List.set_cons_zero, List.set_cons_succ, Bool.and_self, Nat.reduceAdd, Nat.reduceSub, Nat.reduceMul, List.replicate, evK_go, reduceIte, Nat.reduceEqDiff, Nat.reduceLT, and_self, List.foldl_cons, List.foldl_nil, Int.cast_ofNat_Int, Int.natCast_add, slots, wkL_nil, wkL_cons, wkB_nil, wkR_nil, wkV_j, wkV_d, frz_d, reduceCtorEq]
                · simp (implicitDefEqProofs := false) (dsimp := false) only [↓gdK_t, ↓gval_mk, ↓gvL_zero, ↓gvL_succ, ↓aw_seq, ↓aw_exit, ↓aw_ret, ↓aw_reg, ↓Qseq_n, ↓Qseq_x, ↓Qblk_n, ↓Qblk_x, ↓Qret_r, ↓ops_nil, ↓ops_cons, ↓ops_guard, ↓eval_tmp, ↓eval_int, ↓eval_bool, ↓put_some, ↓lenK_l, ↓binE_i, ↓bi_add, ↓bi_lss, ↓in_i64, ↓op_move, ↓op_assign, ↓op_bin, ↓op_len, ↓td_d, ↓ret_1, ↓st_tm, ↓sl22, List.getD_cons_zero, List.getD_cons_succ, List.set_cons_zero, List.set_cons_succ, List.length_map, Nat.reduceAdd, Nat.reduceSub, Nat.reduceMul, evK_go, reduceIte, Nat.reduceEqDiff, Nat.reduceLT]
                  refine cdK_dec (fun h4 => ?_) (fun h4 => ?_)
                  · simp (implicitDefEqProofs := false) (dsimp := false) only [h4, ↓cdK_true, ↓cdK_not, ↓gdK_t, ↓gval_mk, ↓gvL_zero, ↓gvL_succ, ↓aw_cond, ↓Qseq_n, ↓ops_nil, ↓ops_cons, ↓ops_guard, ↓eval_tmp, ↓put_some, ↓bK_b, ↓binE_i, ↓bi_neq, ↓op_move, ↓op_pick, ↓op_bin, ↓st_tm, List.getD_cons_zero, List.getD_cons_succ, List.set_cons_zero, List.set_cons_succ, Nat.reduceAdd, Nat.reduceSub, Nat.reduceMul, evK_go, reduceIte, decide_true, Nat.reduceEqDiff, Nat.reduceLT, Int.natCast_inj]
                    refine cdK_dec (fun h5 => ?_) (fun h5 => ?_)
                    · subst h5
                      simp (implicitDefEqProofs := false) (dsimp := false) only [↓aw_skip, ↓aw_reg, ↓Qseq_n, ↓Qblk_n, ↓ops_nil, ↓ops_cons, ↓eval_tmp, ↓eval_int, ↓put_some, ↓binE_i, ↓bi_add, ↓in_i64, ↓op_move, ↓op_assign, ↓op_bin, List.getD_cons_zero, List.getD_cons_succ, List.set_cons_zero, List.set_cons_succ, Nat.reduceAdd, Nat.reduceSub, Nat.reduceMul, evK_go, reduceIte, decide_true, Bool.not_true, Nat.reduceEqDiff, Nat.reduceLT]
                      refine ⟨by omega, i + 1, by omega, by omega, ?_⟩
                      refine Wkn.of [] [] ?_; simp (implicitDefEqProofs := false) (dsimp := false) only [List.set_cons_zero, List.set_cons_succ, Bool.and_self, Nat.reduceAdd, Nat.reduceSub, Nat.reduceMul, List.replicate, evK_go, reduceIte, Nat.reduceEqDiff, Nat.reduceLT, and_self, List.foldl_cons, List.foldl_nil, Int.cast_ofNat_Int, Int.natCast_add, slots, wkL_nil, wkL_cons, wkB_nil, wkR_nil, wkV_j, wkV_d, frz_d, reduceCtorEq]
                    · simp (implicitDefEqProofs := false) (dsimp := false) only [h5, ↓optK_some, ↓rwK_mk_, ↓aw_seq, ↓aw_reg, ↓Qseq_n, ↓ops_nil, ↓ops_cons, ↓eval_tmp, ↓eval_nil, ↓eval_func, ↓put_some, ↓dK_d, ↓op_move, ↓op_assign, ↓op_build, ↓op_append, ↓op_call, isD_d, isD_o, ↓fnK_f, ↓call_H, ↓callK_H, ↓allT_nil, ↓allT_cons, ↓allD_nil, ↓allD_cons, ↓td_d, ↓td_o, ↓addRow_mk, ↓app_mk, ↓st_rw, ↓row_sz, ↓row_xs, kill_d, kill_j, kill_nl, kill_o, ↓cells_c, ↓cells_s, ↓one_i, ↓ap_, ↓ap_nl, ↓ap_o, ↓src_l, ↓bs_, ↓op_bs, ↓bsL_f, ↓stored_mk, ↓sl_nil, ↓sl_cons, ↓sT_move, ↓sT_assign, ↓sT_extract, ↓sT_build, ↓sT_bs, ↓sT_call, ↓vsz_agg, ↓inO_1, ↓fm_nil, ↓fm_cons, ↓sl22, ↓ty35, ↓zb35, ↓bd35, List.getD_cons_zero, List.getD_cons_succ, List.set_cons_zero, List.set_cons_succ, List.cons_append, List.nil_append, List.append_nil, List.map_cons, List.map_nil, List.length_cons, List.length_nil, List.length_map, List.all_cons, List.all_nil, Bool.and_true, Bool.true_and, Bool.and_self, Bool.and_false, Bool.or_false, Nat.reduceAdd, Nat.reduceSub, Nat.reduceMul, Nat.zero_add, evK_go, reduceIte, decide_false, Bool.not_false, Nat.reduceEqDiff, Nat.reduceLT, and_self, true_and, and_true, Int.zero_add, List.drop_zero]
                      have hm62 : (l ++ [((a : Int), (b : Int))]).length < 2 ^ 62 := by simp; omega
                      obtain ⟨hc2, hM2⟩ := more a b hb h5 (by omega)
                      refine ⟨rfl, fun y hy => ?_, ⟨by omega, by omega⟩, ⟨rfl, by decide⟩, rfl, ⟨fun _ => trivial, by omega, by omega⟩, OrH.r (Loud.frz { tm := slots 139 [(0, .d (I .i64 n)), (1, .d (.l (l.map lnD))), (6, .d (.l (M.map liD))), (9, .d (I .i64 a)), (10, .d (I .i64 i)), (11, .d (I .i64 b)), (121, .d (I .i64 n)), (127, .d (.l ((l ++ [((a : Int), (b : Int))]).map lnD)))], bx := [], rw := [] } (Wkn.of [] [] ?_) ?_)⟩
                      · obtain ⟨q, _, rfl⟩ := List.mem_map.1 hy
                        exact ⟨rfl, rfl⟩
                      · have e1 : List.take (l.length + 1) (l.map lnD ++ [D.s [I .i64 a, I .i64 b]]) = (l ++ [((a : Int), (b : Int))]).map lnD := by
                          rw [List.map_append]
                          exact List.take_of_length_le (by simp)
                        simp (implicitDefEqProofs := false) (dsimp := false) only [e1, ↓optK_some, ↓row_xs, List.getD_cons_zero, List.set_cons_zero, List.set_cons_succ, Bool.and_self, Nat.reduceAdd, Nat.reduceSub, Nat.reduceMul, List.replicate, evK_go, reduceIte, Nat.reduceEqDiff, Nat.reduceLT, and_self, not_false_eq_true, List.drop_zero, List.foldl_cons, List.foldl_nil, slots, wkL_nil, wkL_cons, wkB_nil, wkR_nil, wkV_j, wkV_d, frz_d, frz_o, dl_eq, reduceCtorEq, List.not_mem_nil]
                      · have hM62 : M.length < 2 ^ 62 ∧ ∀ x ∈ M, x.length < 2 ^ 62 := by
                          refine ⟨by rw [cw.len]; omega, fun x hx => ?_⟩
                          obtain ⟨q, hq, rfl⟩ := List.mem_iff_getElem.1 hx
                          have := cw.sz q
                          rw [List.getD_eq_getElem?_getD, List.getElem?_eq_getElem hq, Option.getD_some] at this
                          omega
                        simp (implicitDefEqProofs := false) (dsimp := false) only [slots, call_call, hm62, hc2, hM2, erows_call, eval_nilI, ↓er_neq, ↓cdK_false, ↓gdK_f, ↓gval_mk, ↓gvL_zero, ↓gvL_succ, ↓nthK_H, ↓nthH_zero, ↓nthH_succ, ↓aw_cond, ↓aw_seq, ↓aw_skip, ↓aw_reg, ↓Qseq_n, ↓Qblk_n, ↓ops_nil, ↓ops_cons, ↓ops_guard, ↓eval_tmp, ↓eval_int, ↓eval_func, ↓put_some, ↓bK_b, ↓tK_t, ↓binE_i, ↓bi_add, ↓in_i64, ↓op_move, ↓op_assign, ↓op_pick, ↓op_bin, ↓op_not, ↓op_extract, ↓op_call, isD_d, ↓fnK_f, ↓call_H, ↓callK_H, ↓allT_nil, ↓allT_cons, ↓td_d, ↓st_tm, List.getD_cons_zero, List.getD_cons_succ, List.set_cons_zero, List.set_cons_succ, List.append_nil, List.all_cons, List.all_nil, Bool.true_and, Bool.and_self, Bool.true_or, Nat.reduceAdd, Nat.reduceSub, Nat.reduceMul, List.replicate, evK_go, reduceIte, decide_true, Bool.not_true, Nat.reduceEqDiff, Nat.reduceLT, and_self, true_and, List.foldl_cons, List.foldl_nil]
                        (repeat refine OrH.l ?_)
                        refine ⟨hM62, ?_⟩
                        (repeat refine OrH.l ?_)
                        refine ⟨by omega, i + 1, by omega, by omega, ?_⟩
                        refine Wkn.of [] [] ?_; simp (implicitDefEqProofs := false) (dsimp := false) only [Bool.and_self, Nat.reduceAdd, Nat.reduceSub, Nat.reduceMul, evK_go, reduceIte, Nat.reduceEqDiff, Nat.reduceLT, and_self, Int.cast_ofNat_Int, Int.natCast_add, slots, wkL_nil, wkL_cons, wkB_nil, wkR_nil, wkV_j, wkV_d, frz_d, reduceCtorEq]
                  · simp (implicitDefEqProofs := false) (dsimp := false) only [h4, ↓cdK_false, ↓gdK_t, ↓gval_mk, ↓gvL_zero, ↓gvL_succ, ↓aw_cond, ↓aw_skip, ↓aw_reg, ↓Qseq_n, ↓Qblk_n, ↓ops_nil, ↓ops_cons, ↓ops_guard, ↓eval_tmp, ↓eval_int, ↓eval_bool, ↓put_some, ↓bK_b, ↓binE_i, ↓bi_add, ↓in_i64, ↓op_move, ↓op_assign, ↓op_pick, ↓op_bin, ↓st_tm, List.getD_cons_zero, List.getD_cons_succ, List.set_cons_zero, List.set_cons_succ, Nat.reduceAdd, Nat.reduceSub, Nat.reduceMul, evK_go, reduceIte, decide_false, Nat.reduceEqDiff, Nat.reduceLT]
                    refine ⟨by omega, i + 1, by omega, by omega, ?_⟩
                    refine Wkn.of [] [] ?_; simp (implicitDefEqProofs := false) (dsimp := false) only [List.set_cons_zero, List.set_cons_succ, Bool.and_self, Nat.reduceAdd, Nat.reduceSub, Nat.reduceMul, List.replicate, evK_go, reduceIte, Nat.reduceEqDiff, Nat.reduceLT, and_self, List.foldl_cons, List.foldl_nil, Int.cast_ofNat_Int, Int.natCast_add, slots, wkL_nil, wkL_cons, wkB_nil, wkR_nil, wkV_j, wkV_d, frz_d, reduceCtorEq]
            · simp (implicitDefEqProofs := false) (dsimp := false) only [↓aw_seq, ↓aw_exit, ↓aw_ret, ↓aw_reg, ↓Qseq_n, ↓Qseq_x, ↓Qblk_n, ↓Qblk_x, ↓Qret_r, ↓ops_nil, ↓ops_cons, ↓eval_tmp, ↓eval_int, ↓eval_bool, ↓put_some, ↓binE_i, ↓bi_add, ↓in_i64, ↓op_move, ↓op_assign, ↓op_bin, ↓td_d, ↓ret_1, List.getD_cons_zero, List.getD_cons_succ, List.set_cons_zero, List.set_cons_succ, Nat.reduceAdd, Nat.reduceSub, Nat.reduceMul, evK_go, reduceIte, Nat.reduceEqDiff, Nat.reduceLT]
              refine ⟨by omega, a + 1, by omega, by omega, ?_⟩
              refine Wkn.of [] [] ?_; simp (implicitDefEqProofs := false) (dsimp := false) only [List.set_cons_zero, List.set_cons_succ, Bool.and_self, Nat.reduceAdd, Nat.reduceSub, Nat.reduceMul, List.replicate, evK_go, reduceIte, Nat.reduceEqDiff, Nat.reduceLT, and_self, List.foldl_cons, List.foldl_nil, Int.cast_ofNat_Int, Int.natCast_add, slots, wkL_nil, wkL_cons, wkB_nil, wkR_nil, wkV_j, wkV_d, frz_d, reduceCtorEq]
        · simp (implicitDefEqProofs := false) (dsimp := false) only [↓aw_seq, ↓aw_exit, ↓aw_ret, ↓aw_reg, ↓Qseq_n, ↓Qseq_x, ↓Qblk_x, ↓Qret_r, ↓ops_nil, ↓ops_cons, ↓eval_tmp, ↓eval_bool, ↓put_some, ↓op_assign, ↓td_d, ↓ret_1, List.getD_cons_zero, List.getD_cons_succ, List.set_cons_zero, List.set_cons_succ, Nat.reduceAdd, Nat.reduceSub, Nat.reduceMul, evK_go, reduceIte, Nat.reduceEqDiff, Nat.reduceLT]
end Go.Proofs

namespace Go.Proofs
open Go.Aw
set_option linter.unusedSimpArgs false
set_option maxRecDepth 10000
theorem close_mem {n : Int} {l : List (Int × Int)} (hc : chk n l = 0) (i j : Nat) : (j : Int) ∈ (closeAll n l).getD i default ↔ Path1 (natL l) i j := by
  have ok := chk_ok hc
  have e : closeAll n l = (war n.toNat (natL l)).map ptsI := if_pos hc
  rw [e, mapP_get, ptsI_mem, war_bit ok.good]
  exact ⟨fun h => h.2, fun h => ⟨by have := (h.lt ok.good).2; have := ok.hi; omega, h⟩⟩
theorem close_congr {n : Int} {l l' : List (Int × Int)} (hc : chk n l = 0) (hc' : chk n l' = 0) (h : ∀ i j, Path1 (natL l) i j ↔ Path1 (natL l') i j) : closeAll n l = closeAll n l' := by
  have ok := chk_ok hc
  have ok' := chk_ok hc'
  rw [show closeAll n l = (war n.toNat (natL l)).map ptsI from if_pos hc, show closeAll n l' = (war n.toNat (natL l')).map ptsI from if_pos hc']
  congr 1
  refine List.ext_getElem (by rw [war_len ok.good, war_len ok'.good]) fun i h1 h2 => ?_
  apply bits_eq
  intro j
  have g1 := war_bit ok.good i j
  have g2 := war_bit ok'.good i j
  rw [List.getD_eq_getElem?_getD, List.getElem?_eq_getElem h1, Option.getD_some] at g1
  rw [List.getD_eq_getElem?_getD, List.getElem?_eq_getElem h2, Option.getD_some] at g2
  rw [Bool.eq_iff_iff, g1, g2, h]
def intP (p : Nat × Nat) : Int × Int := ((p.1 : Int), (p.2 : Int))
def intL (l : List (Nat × Nat)) : List (Int × Int) := l.map intP
theorem lnN_int (l : List (Nat × Nat)) : l.map lnN = (intL l).map lnD := by unfold intL; rw [List.map_map]; rfl
theorem natL_int (l : List (Nat × Nat)) : natL (intL l) = l := by
  unfold natL intL
  rw [List.map_map]
  exact List.map_id _
theorem chk_sub {n : Int} {l l' : List (Int × Int)} (hc : chk n l = 0) (hl : l'.length ≤ 24) (h : ∀ p ∈ l', p ∈ l) : chk n l' = 0 := by
  rw [chk_iff] at hc ⊢
  exact ⟨hc.1, hl, fun p hp => hc.2.2 p (h p hp)⟩
theorem intL_sub {l : List (Int × Int)} {F : List (Nat × Nat)} (hl : ∀ p ∈ l, 0 ≤ p.1 ∧ 0 ≤ p.2) (h : ∀ p ∈ F, p ∈ natL l) : ∀ p ∈ intL F, p ∈ l := by
  intro p hp
  obtain ⟨q, hq, rfl⟩ := List.mem_map.1 hp
  obtain ⟨r, hr, rfl⟩ := List.mem_map.1 (h q hq)
  have := hl r hr
  have e : intP (natP r) = r := by
    show ((r.1.toNat : Int), (r.2.toNat : Int)) = r
    rw [Int.toNat_of_nonneg this.1, Int.toNat_of_nonneg this.2]
  rw [e]; exact hr
theorem closeM {n : Int} {l : List (Int × Int)} (hc : chk n l = 0) : (closeAll n l).length < 2 ^ 62 ∧ ∀ x ∈ closeAll n l, x.length < 2 ^ 62 := by
  have cw := closeW hc
  have h8 := cw.hi
  refine ⟨by rw [cw.len]; omega, fun x hx => ?_⟩
  obtain ⟨q, hq, rfl⟩ := List.mem_iff_getElem.1 hx
  have := cw.sz q
  rw [List.getD_eq_getElem?_getD, List.getElem?_eq_getElem hq, Option.getD_some] at this
  omega
structure FW (n : Int) (l F : List (Int × Int)) : Prop where
  chk0 : chk n l = 0
  chkF : chk n F = 0
  same : closeAll n F = closeAll n l
  len : F.length ≤ l.length
  sub : ∀ p ∈ F, p ∈ l
  need : ∀ k : Nat, k < F.length → chk n (butL F (k : Int)) = 0 ∧ closeAll n (butL F (k : Int)) ≠ closeAll n l
theorem fewW {n : Int} {l : List (Int × Int)} (h : topoE n l = 0) : FW n l (intL (fewR n l)) := by
  obtain ⟨hc, o, ho⟩ := topoE_zero h
  have ok := chk_ok hc
  have h8 := ok.hi
  have e : fewR n l = few n.toNat (natL l) := if_pos h
  rw [e]
  have ht := topo_some (by omega) ok.good ho
  have hlen : (intL (few n.toNat (natL l))).length ≤ l.length := by
    unfold intL; rw [List.length_map]
    have := few_len (n := n.toNat) (by omega) ok.good
    rw [natL_len] at this; exact this
  have hsub := intL_sub ok.rng (F := few n.toNat (natL l)) fun p hp => few_sub (by omega) ok.good hp
  have h24 := ok.len
  have hcF := chk_sub hc (by omega) hsub
  refine ⟨hc, hcF, close_congr hcF hc fun i j => by rw [natL_int]; exact few_path (by omega) ok.good ht, hlen, hsub, fun k hk => ?_⟩
  have hk' : k < (few n.toNat (natL l)).length := by simpa [intL] using hk
  have hcB : chk n (butL (intL (few n.toNat (natL l))) (k : Int)) = 0 := chk_sub hcF (by
    have := butK_len (intL (few n.toNat (natL l))) (k : Int) (intL (few n.toNat (natL l))).length
    unfold butL; omega) fun p hp => but_mem hp
  refine ⟨hcB, fun e => ?_⟩
  obtain ⟨i, j, h1, h2⟩ := few_need (by omega) ok.good hk'
  have h3 := (close_mem hc i j).2 h1
  rw [← e] at h3
  have h4 := (close_mem hcB i j).1 h3
  have e2 : natL (butL (intL (few n.toNat (natL l))) (k : Int)) = (few n.toNat (natL l)).eraseIdx k := by
    show (butL (intL (few n.toNat (natL l))) (k : Int)).map natP = _
    rw [← but_map]
    have e3 : (intL (few n.toNat (natL l))).map natP = few n.toNat (natL l) := natL_int _
    rw [e3, but_erase _ _ hk']
  rw [e2] at h4
  exact h2 h4
theorem lCloseFew_spec (n : Int) (l : List (Int × Int)) (k : Int) (_hn : -9223372036854775808 ≤ n ∧ n ≤ 9223372036854775807) (hpre : l.length < 2 ^ 43) (_hk : -9223372036854775808 ≤ k ∧ k ≤ 9223372036854775807) : FnD Try.prog 8 [I .i64 n, .l (l.map lnD), I .i64 k] (Bo true) := by
  have hl62 : l.length < 2 ^ 62 := by omega
  refine FnD.go Try.func8 rfl rfl Try.results8 Try.ntmps8 ?_
  simp (implicitDefEqProofs := false) (dsimp := false) only [↓aw_seq, ↓aw_reg, ↓Qseq_n, ↓ops_nil, ↓ops_cons, ↓eval_bool, ↓eval_func, ↓put_some, ↓op_assign, ↓op_call, isD_d, ↓fnK_f, ↓call_H, ↓callK_H, ↓allT_nil, ↓td_d, List.set_cons_zero, List.set_cons_succ, List.cons_append, List.nil_append, List.append_nil, List.map_cons, List.map_nil, List.length_cons, List.length_nil, List.all_nil, Bool.and_self, Nat.reduceAdd, Nat.reduceSub, Nat.reduceMul, Nat.zero_add, List.replicate, evK_go, reduceIte, Nat.reduceEqDiff, Nat.reduceLT, and_self, Int.zero_add]
  simp (implicitDefEqProofs := false) (dsimp := false) only [cfact_call, few_call, hl62, eval_nilI, ↓er_neq, ↓cdK_false, ↓cdK_not, ↓nthK_H, ↓nthH_zero, ↓nthH_succ, ↓aw_cond, ↓aw_seq, ↓aw_skip, ↓aw_reg, ↓Qseq_n, ↓ops_nil, ↓ops_cons, ↓eval_tmp, ↓eval_func, ↓put_some, ↓bK_b, ↓tK_t, ↓op_move, ↓op_assign, ↓op_bin, ↓op_not, ↓op_extract, ↓op_call, isD_d, ↓fnK_f, ↓call_H, ↓callK_H, ↓allT_nil, ↓allT_cons, ↓td_d, List.getD_cons_zero, List.getD_cons_succ, List.set_cons_zero, List.set_cons_succ, List.append_nil, List.all_cons, List.all_nil, Bool.true_and, Bool.and_self, Bool.true_or, Nat.reduceAdd, Nat.reduceSub, Nat.reduceMul, evK_go, reduceIte, Bool.not_true, Nat.reduceEqDiff, Nat.reduceLT, and_self, true_and]
  (repeat refine OrH.l ?_)
  refine cdK_dec (fun hc => ?_) (fun hc => ?_)
  rotate_left
  · have e1 : fewR n l = [] := if_neg hc
    simp (implicitDefEqProofs := false) (dsimp := false) only [e1, ↓aw_seq, ↓aw_ret, ↓aw_reg, ↓Qseq_n, ↓Qseq_r, ↓Qret_r, ↓ops_nil, ↓ops_cons, ↓eval_tmp, ↓eval_int, ↓put_some, ↓lenK_l, ↓binE_i, ↓bi_eql, ↓op_move, ↓op_assign, ↓op_bin, ↓op_len, ↓td_d, ↓ret_1, ↓sl22, List.getD_cons_zero, List.getD_cons_succ, List.set_cons_zero, List.set_cons_succ, List.map_nil, List.length_nil, Nat.reduceAdd, Nat.reduceSub, Nat.reduceMul, evK_go, reduceIte, decide_true, Nat.reduceEqDiff, Nat.reduceLT, Int.cast_ofNat_Int]
  have fw := fewW hc
  have hM62 := closeM fw.chk0
  rw [lnN_int]
  generalize intL (fewR n l) = F at fw ⊢
  have hF62 : F.length < 2 ^ 62 := by have := fw.len; omega
  have hFl : ¬ F.length > l.length := by have := fw.len; omega
  have h24 := fw.len
  simp (implicitDefEqProofs := false) (dsimp := false) only [call_call, hl62, hF62, fw.chk0, fw.chkF, fw.same, erows_call, hM62, hFl, eval_nilI, ↓er_neq, ↓cdK_false, ↓gdK_f, ↓gval_mk, ↓gvL_zero, ↓gvL_succ, ↓nthK_H, ↓nthH_zero, ↓nthH_succ, ↓aw_cond, ↓aw_seq, ↓aw_block, ↓aw_skip, ↓aw_loop, ↓aw_reg, ↓Qseq_n, ↓ops_nil, ↓ops_cons, ↓ops_guard, ↓eval_tmp, ↓eval_int, ↓eval_func, ↓put_some, ↓bK_b, ↓lenK_l, ↓tK_t, ↓binE_i, ↓bi_gtr, ↓op_move, ↓op_assign, ↓op_pick, ↓op_bin, ↓op_not, ↓op_extract, ↓op_len, ↓op_call, isD_d, ↓fnK_f, ↓call_H, ↓callK_H, ↓allT_nil, ↓allT_cons, ↓td_d, ↓st_tm, ↓sl22, List.getD_cons_zero, List.getD_cons_succ, List.set_cons_zero, List.set_cons_succ, List.append_nil, List.length_map, List.all_cons, List.all_nil, Bool.true_and, Bool.and_self, Bool.true_or, Nat.reduceAdd, Nat.reduceSub, Nat.reduceMul, evK_go, reduceIte, decide_true, decide_false, Bool.not_true, Nat.reduceEqDiff, Nat.reduceLT, and_self, true_and, Int.ofNat_lt]
  (repeat refine OrH.l ?_)
  refine ⟨hM62.2, ?_⟩
  refine loopW (fun i : Nat => { tm := slots 102 [(0, .d (I .i64 n)), (1, .d (.l (l.map lnD))), (2, .d (I .i64 k)), (8, .d (.l (F.map lnD))), (10, .d (.l ((closeAll n l).map liD))), (14, .d (I .i64 i))], bx := [], rw := [] })
    (fun i => i ≤ F.length) (fun i => F.length - i) 0 (by simp) ?_ ?_
  · refine Wkn.of [] [] ?_; simp (implicitDefEqProofs := false) (dsimp := false) only [List.set_cons_zero, List.set_cons_succ, Bool.and_self, Nat.reduceAdd, Nat.reduceSub, Nat.reduceMul, List.replicate, evK_go, reduceIte, Nat.reduceEqDiff, Nat.reduceLT, and_self, List.foldl_cons, List.foldl_nil, Int.cast_ofNat_Int, slots, wkL_nil, wkL_cons, wkB_nil, wkR_nil, wkV_j, wkV_d, frz_d, reduceCtorEq]
  · intro i hi
    simp (implicitDefEqProofs := false) (dsimp := false) only [slots, ↓aw_cond, ↓aw_seq, ↓aw_reg, ↓Qseq_n, ↓ops_nil, ↓ops_cons, ↓eval_tmp, ↓put_some, ↓bK_b, ↓lenK_l, ↓binE_i, ↓bi_lss, ↓op_move, ↓op_bin, ↓op_len, ↓sl22, List.getD_cons_zero, List.getD_cons_succ, List.set_cons_zero, List.set_cons_succ, List.length_map, Nat.reduceAdd, Nat.reduceSub, Nat.reduceMul, List.replicate, evK_go, reduceIte, Nat.reduceEqDiff, Nat.reduceLT, List.foldl_cons, List.foldl_nil, Int.ofNat_lt]
    refine cdK_dec (fun h => ?_) (fun h => ?_)
    · have hm := fw.sub _ (getD_mem h)
      simp (implicitDefEqProofs := false) (dsimp := false) only [h, lnD, goes_callQ, hl62, ↓cdK_not, ↓atK_H, ↓atH_map, ↓aw_cond, ↓aw_seq, ↓aw_block, ↓aw_skip, ↓aw_draw, ↓Qseq_n, ↓eval_tmp, ↓eval_func, ↓put_some, ↓bK_b, ↓iK_i, ↓ev_move, ↓ev_load, ↓ev_not, ↓ev_fa, ↓ev_ia, ↓ldK_q, ↓faK_q, ↓iaK_l, isD_d, ↓fnK_f, ↓callKQ_H, ↓allT_nil, ↓allT_cons, ↓td_d, ↓draw_H, ↓h_nil, ↓h_cons, ↓ldH_n, ↓q_call, ↓q_move, ↓q_load, ↓q_un, ↓q_fa, ↓q_ia, ↓il_move, ↓il_load, ↓il_un, ↓il_fa, ↓il_ia, ↓il_call, ↓cells_s, ↓hd_cons, ↓ty3, ↓sl22, ↓ty35, ↓fd35_0, ↓fd35_1, List.getD_cons_zero, List.getD_cons_succ, List.set_cons_zero, List.set_cons_succ, List.append_nil, List.length_cons, List.length_nil, List.all_cons, List.all_nil, Bool.true_and, Bool.and_self, Bool.true_or, Nat.reduceAdd, Nat.reduceSub, Nat.reduceMul, Nat.zero_add, Int.toNat_natCast, evK_go, reduceIte, decide_true, Nat.reduceEqDiff, Nat.reduceLT, and_self, true_and, Int.zero_add, List.drop_zero, List.drop_succ_cons, Int.natCast_nonneg]
      have e : ((F.getD i default).1, (F.getD i default).2) = F.getD i default := rfl
      refine OrH.l ⟨DrawH.of follows_mixed (by kernel_rfl), ?_⟩
      simp (implicitDefEqProofs := false) (dsimp := false) only [e, hm, ↓cdK_true, ↓aw_skip, ↓aw_reg, ↓Qseq_n, ↓Qblk_n, ↓ops_nil, ↓ops_cons, ↓eval_tmp, ↓eval_int, ↓put_some, ↓binE_i, ↓bi_add, ↓in_i64, ↓op_move, ↓op_assign, ↓op_bin, List.getD_cons_zero, List.getD_cons_succ, List.set_cons_zero, List.set_cons_succ, Nat.reduceAdd, Nat.reduceSub, Nat.reduceMul, evK_go, reduceIte, decide_true, Bool.not_true, Nat.reduceEqDiff, Nat.reduceLT]
      (repeat refine OrH.l ?_)
      refine ⟨by omega, i + 1, by omega, by omega, ?_⟩
      refine Wkn.of [] [] ?_; simp (implicitDefEqProofs := false) (dsimp := false) only [List.set_cons_zero, List.set_cons_succ, Bool.and_self, Nat.reduceAdd, Nat.reduceSub, Nat.reduceMul, List.replicate, evK_go, reduceIte, Nat.reduceEqDiff, Nat.reduceLT, and_self, List.foldl_cons, List.foldl_nil, Int.cast_ofNat_Int, Int.natCast_add, slots, wkL_nil, wkL_cons, wkB_nil, wkR_nil, wkV_j, wkV_d, frz_d, reduceCtorEq]
    · simp (implicitDefEqProofs := false) (dsimp := false) only [in2_call, ↓cdK_not, ↓aw_cond, ↓aw_seq, ↓aw_exit, ↓aw_reg, ↓Qseq_n, ↓Qseq_x, ↓Qblk_x, ↓ops_nil, ↓ops_cons, ↓eval_tmp, ↓eval_int, ↓eval_func, ↓put_some, ↓bK_b, ↓lenK_l, ↓binE_i, ↓bi_sub, ↓in_i64, ↓op_move, ↓op_bin, ↓op_not, ↓op_len, ↓op_call, isD_d, ↓fnK_f, ↓call_H, ↓callK_H, ↓allT_nil, ↓allT_cons, ↓td_d, ↓sl22, List.getD_cons_zero, List.getD_cons_succ, List.set_cons_zero, List.set_cons_succ, List.append_nil, List.length_map, List.all_cons, List.all_nil, Bool.true_and, Bool.and_self, Bool.true_or, Nat.reduceAdd, Nat.reduceSub, Nat.reduceMul, evK_go, reduceIte, Nat.reduceEqDiff, Nat.reduceLT, and_self, true_and]
      refine ⟨by omega, ?_⟩
      (repeat refine OrH.l ?_)
      refine cdK_split (fun hk => ?_) (fun hk => ?_)
      rotate_left
      · simp (implicitDefEqProofs := false) (dsimp := false) only [↓aw_seq, ↓aw_ret, ↓aw_reg, ↓Qseq_n, ↓Qseq_r, ↓Qret_r, ↓ops_nil, ↓ops_cons, ↓eval_tmp, ↓eval_bool, ↓put_some, ↓op_assign, ↓td_d, ↓ret_1, List.getD_cons_zero, List.getD_cons_succ, List.set_cons_zero, List.set_cons_succ, Nat.reduceAdd, Nat.reduceSub, Nat.reduceMul, evK_go, reduceIte, Nat.reduceEqDiff, Nat.reduceLT]
      rw [inB_iff] at hk
      obtain ⟨x, rfl⟩ := Int.eq_ofNat_of_zero_le hk.1
      obtain ⟨hB1, hB2⟩ := fw.need x (by omega)
      have hB62 : (butL F (x : Int)).length < 2 ^ 62 := by
        have := butK_len F (x : Int) F.length
        unfold butL; omega
      have hB3 : ¬ closeAll n l = closeAll n (butL F (x : Int)) := fun e => hB2 e.symm
      have hF43 : F.length < 2 ^ 43 := by omega
      simp (implicitDefEqProofs := false) (dsimp := false) only [but_callD, hF43, call_call, hB62, hB1, hB3, erows_call, hM62, eval_nilI, ↓er_eql, ↓cdK_true, ↓gdK_t, ↓gval_mk, ↓gvL_zero, ↓gvL_succ, ↓nthK_H, ↓nthH_zero, ↓nthH_succ, ↓aw_seq, ↓aw_ret, ↓aw_skip, ↓aw_reg, ↓Qseq_n, ↓Qret_r, ↓ops_nil, ↓ops_cons, ↓ops_guard, ↓eval_tmp, ↓eval_func, ↓put_some, ↓bK_b, ↓tK_t, ↓op_move, ↓op_assign, ↓op_pick, ↓op_bin, ↓op_not, ↓op_extract, ↓op_call, isD_d, ↓fnK_f, ↓call_H, ↓callK_H, ↓allT_nil, ↓allT_cons, ↓td_d, ↓ret_1, ↓st_tm, List.getD_cons_zero, List.getD_cons_succ, List.set_cons_zero, List.set_cons_succ, List.append_nil, List.all_cons, List.all_nil, Bool.and_true, Bool.true_and, Bool.and_self, Bool.true_or, Nat.reduceAdd, Nat.reduceSub, Nat.reduceMul, evK_go, reduceIte, decide_true, decide_false, Bool.not_false, Nat.reduceEqDiff, Nat.reduceLT, and_self, true_and, and_true]
      (repeat refine OrH.l ?_)
      exact hM62.2
end Go.Proofs

namespace Go.Proofs
open Go.Aw
set_option linter.unusedSimpArgs false
set_option maxRecDepth 10000
def mErr (left right : Int) (p : Int × Int) : Int := if (inB p.1 0 (left - 1) && inB p.2 0 (right - 1)) = true then 0 else 1
def mchk (left right : Int) (l : List (Int × Int)) : Int := if (inB left 0 6 && inB right 0 6) = false then 1 else if 24 < l.length then 4 else firstErr (mErr left right) l
theorem mcheck_spec (left right : Int) (l : List (Int × Int)) (hpre : l.length < 2 ^ 62) : FnD Try.prog 67 [I .i64 left, I .i64 right, .l (l.map lnD)] (erD (mchk left right l)) := by
  refine FnD.go Try.func67 rfl rfl Try.results67 Try.ntmps67 ?_
  simp (implicitDefEqProofs := false) (dsimp := false) only [↓aw_seq, ↓aw_reg, ↓Qseq_n, ↓ops_nil, ↓ops_cons, ↓eval_tmp, ↓eval_int, ↓eval_func, ↓put_some, ↓op_move, ↓op_assign, ↓op_call, isD_d, ↓fnK_f, ↓call_H, ↓callK_H, ↓allT_nil, ↓allT_cons, ↓td_d, List.getD_cons_zero, List.getD_cons_succ, List.set_cons_zero, List.set_cons_succ, List.cons_append, List.nil_append, List.append_nil, List.map_cons, List.map_nil, List.length_cons, List.length_nil, List.all_cons, List.all_nil, Bool.and_self, Nat.reduceAdd, Nat.reduceSub, Nat.reduceMul, Nat.zero_add, List.replicate, evK_go, reduceIte, Nat.reduceEqDiff, Nat.reduceLT, and_self, Int.zero_add]
  simp (implicitDefEqProofs := false) (dsimp := false) only [within_call, eval_nilI, ↓cdK_not, ↓gdK_f, ↓gval_mk, ↓gvL_zero, ↓gvL_succ, ↓ops_cons, ↓ops_guard, ↓eval_tmp, ↓put_some, ↓bK_b, ↓op_move, ↓op_not, ↓st_tm, List.getD_cons_zero, List.getD_cons_succ, List.set_cons_zero, List.set_cons_succ, Bool.true_and, Bool.true_or, Nat.reduceAdd, Nat.reduceSub, Nat.reduceMul, evK_go, reduceIte, Nat.reduceEqDiff, Nat.reduceLT, true_and]
  refine OrH.l (OrH.l (cdK_split (fun hA => ?_) (fun hA => ?_)))
  rotate_left
  · have e : mchk left right l = 1 := by simp (implicitDefEqProofs := false) (dsimp := false) only [mchk, hA, Bool.false_and, reduceIte]
    rw [e]
    simp (implicitDefEqProofs := false) (dsimp := false) only [hA, nc97, erD_1, ↓cdK_true, ↓gdK_f, ↓gval_mk, ↓gvL_zero, ↓gvL_succ, ↓aw_cond, ↓aw_seq, ↓aw_ret, ↓aw_reg, ↓Qseq_n, ↓Qseq_r, ↓Qret_r, ↓ops_nil, ↓ops_cons, ↓ops_guard, ↓eval_tmp, ↓eval_int, ↓eval_bool, ↓put_some, ↓bK_b, ↓vK_c, ↓op_assign, ↓op_pick, ↓op_iface, ↓td_d, ↓ret_1, ↓st_tm, ↓nc97, List.getD_cons_zero, List.getD_cons_succ, List.set_cons_zero, List.set_cons_succ, Bool.and_self, Nat.reduceAdd, Nat.reduceSub, Nat.reduceMul, evK_go, reduceIte, Bool.not_false, Nat.reduceEqDiff, Nat.reduceLT, and_self]
  simp (implicitDefEqProofs := false) (dsimp := false) only [hA, within_call, ↓cdK_false, ↓cdK_not, ↓gdK_f, ↓gval_mk, ↓gvL_zero, ↓gvL_succ, ↓aw_cond, ↓Qseq_n, ↓ops_nil, ↓ops_cons, ↓ops_guard, ↓eval_tmp, ↓eval_int, ↓eval_func, ↓put_some, ↓bK_b, ↓op_move, ↓op_pick, ↓op_not, ↓op_call, isD_d, ↓fnK_f, ↓call_H, ↓callK_H, ↓allT_nil, ↓allT_cons, ↓td_d, ↓st_tm, List.getD_cons_zero, List.getD_cons_succ, List.set_cons_zero, List.set_cons_succ, List.append_nil, List.all_cons, List.all_nil, Bool.true_and, Bool.and_self, Bool.true_or, Nat.reduceAdd, Nat.reduceSub, Nat.reduceMul, evK_go, reduceIte, Bool.not_true, Nat.reduceEqDiff, Nat.reduceLT, and_self, true_and]
  refine OrH.l (OrH.l (cdK_split (fun hB => ?_) (fun hB => ?_)))
  rotate_left
  · have e : mchk left right l = 1 := by simp (implicitDefEqProofs := false) (dsimp := false) only [mchk, hB, Bool.and_false, reduceIte]
    rw [e]
    simp (implicitDefEqProofs := false) (dsimp := false) only [hB, nc97, erD_1, ↓aw_seq, ↓aw_ret, ↓aw_reg, ↓Qseq_n, ↓Qseq_r, ↓Qret_r, ↓ops_nil, ↓ops_cons, ↓eval_tmp, ↓eval_int, ↓put_some, ↓vK_c, ↓op_assign, ↓op_iface, ↓td_d, ↓ret_1, ↓nc97, List.getD_cons_zero, List.getD_cons_succ, List.set_cons_zero, List.set_cons_succ, Bool.and_self, Nat.reduceAdd, Nat.reduceSub, Nat.reduceMul, evK_go, reduceIte, Bool.not_false, Nat.reduceEqDiff, Nat.reduceLT, and_self]
  simp (implicitDefEqProofs := false) (dsimp := false) only [hB, ↓aw_cond, ↓aw_seq, ↓aw_skip, ↓aw_reg, ↓Qseq_n, ↓ops_nil, ↓ops_cons, ↓eval_tmp, ↓eval_int, ↓put_some, ↓bK_b, ↓lenK_l, ↓binE_i, ↓bi_gtr, ↓op_move, ↓op_bin, ↓op_len, ↓sl22, List.getD_cons_zero, List.getD_cons_succ, List.set_cons_zero, List.set_cons_succ, List.length_map, Nat.reduceAdd, Nat.reduceSub, Nat.reduceMul, evK_go, reduceIte, Bool.not_true, Nat.reduceEqDiff, Nat.reduceLT]
  refine cdK_dec (fun h24 => ?_) (fun h24 => ?_)
  · have e : mchk left right l = 4 := by
      unfold mchk
      rw [hA, hB, if_neg (by decide), if_pos (by omega)]
    rw [e]
    simp (implicitDefEqProofs := false) (dsimp := false) only [nc97, erD_4, ↓aw_seq, ↓aw_ret, ↓aw_reg, ↓Qseq_n, ↓Qseq_r, ↓Qret_r, ↓ops_nil, ↓ops_cons, ↓eval_tmp, ↓eval_int, ↓put_some, ↓vK_c, ↓op_assign, ↓op_iface, ↓td_d, ↓ret_1, ↓nc97, List.getD_cons_zero, List.getD_cons_succ, List.set_cons_zero, List.set_cons_succ, Bool.and_self, Nat.reduceAdd, Nat.reduceSub, Nat.reduceMul, evK_go, reduceIte, Nat.reduceEqDiff, Nat.reduceLT, and_self]
  have hc : mchk left right l = firstErr (mErr left right) l := by
    unfold mchk
    rw [hA, hB, if_neg (by decide), if_neg (by omega)]
  rw [hc]
  simp (implicitDefEqProofs := false) (dsimp := false) only [↓aw_seq, ↓aw_block, ↓aw_skip, ↓aw_loop, ↓aw_reg, ↓Qseq_n, ↓ops_nil, ↓ops_cons, ↓eval_tmp, ↓eval_int, ↓put_some, ↓lenK_l, ↓op_move, ↓op_len, ↓sl22, List.getD_cons_zero, List.getD_cons_succ, List.set_cons_zero, List.set_cons_succ, List.length_map, Nat.reduceAdd, Nat.reduceSub, Nat.reduceMul, evK_go, reduceIte, Nat.reduceEqDiff, Nat.reduceLT]
  have hA' := inB_iff.1 hA
  have hB' := inB_iff.1 hB
  refine loopW (fun k : Nat => { tm := slots 44 [(0, .d (I .i64 left)), (1, .d (I .i64 right)), (22, .d (.l (l.map lnD))), (23, .d (I .i64 l.length)), (24, .d (I .i64 k))], bx := [], rw := [] })
    (fun k => k ≤ l.length ∧ firstErr (mErr left right) (l.take k) = 0) (fun k => l.length - k) 0 ⟨by simp, by simp [firstErr]⟩ ?_ ?_
  · refine Wkn.of [] [] ?_; simp (implicitDefEqProofs := false) (dsimp := false) only [List.set_cons_zero, List.set_cons_succ, Bool.and_self, Nat.reduceAdd, Nat.reduceSub, Nat.reduceMul, List.replicate, evK_go, reduceIte, Nat.reduceEqDiff, Nat.reduceLT, and_self, List.foldl_cons, List.foldl_nil, Int.cast_ofNat_Int, slots, wkL_nil, wkL_cons, wkB_nil, wkR_nil, wkV_j, wkV_d, frz_d, reduceCtorEq]
  · rintro k ⟨h1, h2⟩
    simp (implicitDefEqProofs := false) (dsimp := false) only [slots, ↓aw_cond, ↓aw_seq, ↓aw_reg, ↓Qseq_n, ↓ops_nil, ↓ops_cons, ↓eval_tmp, ↓put_some, ↓bK_b, ↓binE_i, ↓bi_lss, ↓op_bin, List.getD_cons_zero, List.getD_cons_succ, List.set_cons_zero, List.set_cons_succ, Nat.reduceAdd, Nat.reduceSub, Nat.reduceMul, List.replicate, evK_go, reduceIte, Nat.reduceEqDiff, Nat.reduceLT, List.foldl_cons, List.foldl_nil, Int.ofNat_lt]
    refine cdK_dec (fun h => ?_) (fun h => ?_)
    · obtain ⟨g1, g2⟩ := firstErr_take h h2
      simp (implicitDefEqProofs := false) (dsimp := false) only [h, lnD, within_call, ↓cdK_not, ↓gdK_f, ↓gval_mk, ↓gvL_zero, ↓gvL_succ, ↓atK_H, ↓atH_map, ↓nthK_H, ↓nthH_zero, ↓aw_seq, ↓aw_block, ↓aw_skip, ↓aw_reg, ↓Qseq_n, ↓ops_nil, ↓ops_cons, ↓ops_guard, ↓eval_tmp, ↓eval_int, ↓eval_func, ↓put_some, ↓put_none, ↓bK_b, ↓iK_i, ↓binE_i, ↓bi_sub, ↓in_i64, ↓ldK_q, ↓ldK_p, ↓faK_p, ↓iaK_l, ↓op_move, ↓op_load, ↓op_bin, ↓op_not, ↓op_fa, ↓op_ia, ↓op_call, ↓op_alloc, ↓op_store, isD_d, ↓fnK_f, ↓call_H, ↓callK_H, ↓allT_nil, ↓allT_cons, ↓td_d, ↓addBox_mk, ↓setBox_mk, ↓st_tm, ↓st_bx, ↓cells_s, ↓vcells_s, ↓one_i, ↓vone_d, constV_a, ↓st_p, ↓ty3, ↓sl22, ↓ty35, ↓zb35, ↓fd35_0, List.getD_cons_zero, List.getD_cons_succ, List.set_cons_zero, List.set_cons_succ, List.nil_append, List.append_nil, List.map_cons, List.map_nil, List.length_cons, List.length_nil, List.all_cons, List.all_nil, Bool.true_and, Bool.and_self, Bool.true_or, Nat.reduceAdd, Nat.reduceSub, Nat.reduceMul, Nat.zero_add, Nat.add_zero, Int.toNat_natCast, evK_go, reduceIte, decide_true, Nat.reduceEqDiff, Nat.reduceLT, and_self, true_and, Int.zero_add, List.take_succ_cons, List.take_nil, Int.natCast_nonneg]
      refine ⟨by decide, by omega, OrH.l (OrH.l (cdK_split (fun ha => ?_) (fun ha => ?_)))⟩
      rotate_left
      · have e : mErr left right (l.getD k default) = 1 := by simp (implicitDefEqProofs := false) (dsimp := false) only [mErr, ha, Bool.false_and, Bool.false_eq_true, reduceIte]
        rw [g2 (by rw [e]; decide), e]
        simp (implicitDefEqProofs := false) (dsimp := false) only [ha, nc97, erD_1, ↓cdK_true, ↓gdK_f, ↓gval_mk, ↓gvL_zero, ↓gvL_succ, ↓aw_cond, ↓aw_seq, ↓aw_ret, ↓aw_reg, ↓Qseq_n, ↓Qseq_r, ↓Qblk_r, ↓Qret_r, ↓ops_nil, ↓ops_cons, ↓ops_guard, ↓eval_tmp, ↓eval_int, ↓eval_bool, ↓put_some, ↓bK_b, ↓vK_c, ↓op_assign, ↓op_pick, ↓op_iface, ↓td_d, ↓ret_1, ↓st_tm, ↓nc97, List.getD_cons_zero, List.getD_cons_succ, List.set_cons_zero, List.set_cons_succ, Bool.and_self, Nat.reduceAdd, Nat.reduceSub, Nat.reduceMul, evK_go, reduceIte, Bool.not_false, Nat.reduceEqDiff, Nat.reduceLT, and_self]
      simp (implicitDefEqProofs := false) (dsimp := false) only [ha, within_call, ↓cdK_false, ↓cdK_not, ↓gdK_f, ↓gval_mk, ↓gvL_zero, ↓gvL_succ, ↓nthK_H, ↓nthH_zero, ↓nthH_succ, ↓aw_cond, ↓Qseq_n, ↓ops_nil, ↓ops_cons, ↓ops_guard, ↓eval_tmp, ↓eval_int, ↓eval_func, ↓put_some, ↓bK_b, ↓binE_i, ↓bi_sub, ↓in_i64, ↓ldK_p, ↓faK_p, ↓op_move, ↓op_pick, ↓op_load, ↓op_bin, ↓op_not, ↓op_fa, ↓op_call, isD_d, ↓fnK_f, ↓call_H, ↓callK_H, ↓allT_nil, ↓allT_cons, ↓td_d, ↓st_tm, ↓vcells_s, ↓ty3, ↓fd35_1, List.getD_cons_zero, List.getD_cons_succ, List.set_cons_zero, List.set_cons_succ, List.append_nil, List.map_cons, List.map_nil, List.all_cons, List.all_nil, Bool.true_and, Bool.and_self, Bool.true_or, Nat.reduceAdd, Nat.reduceSub, Nat.reduceMul, Nat.zero_add, evK_go, reduceIte, Bool.not_true, Nat.reduceEqDiff, Nat.reduceLT, and_self, true_and, Int.zero_add]
      refine ⟨by omega, OrH.l (OrH.l (cdK_split (fun hb => ?_) (fun hb => ?_)))⟩
      · have e : mErr left right (l.getD k default) = 0 := by simp (implicitDefEqProofs := false) (dsimp := false) only [mErr, ha, hb, Bool.and_self, reduceIte]
        simp (implicitDefEqProofs := false) (dsimp := false) only [hb, ↓aw_skip, ↓aw_reg, ↓Qseq_n, ↓Qblk_n, ↓ops_nil, ↓ops_cons, ↓eval_tmp, ↓eval_int, ↓put_some, ↓binE_i, ↓bi_add, ↓in_i64, ↓op_move, ↓op_bin, List.getD_cons_zero, List.getD_cons_succ, List.set_cons_zero, List.set_cons_succ, Nat.reduceAdd, Nat.reduceSub, Nat.reduceMul, evK_go, reduceIte, Bool.not_true, Nat.reduceEqDiff, Nat.reduceLT]
        refine ⟨by omega, k + 1, ⟨by omega, g1 e⟩, by omega, ?_⟩
        refine Wkn.of [] [] ?_; simp (implicitDefEqProofs := false) (dsimp := false) only [List.set_cons_zero, List.set_cons_succ, Bool.and_self, Nat.reduceAdd, Nat.reduceSub, Nat.reduceMul, List.replicate, evK_go, reduceIte, Nat.reduceEqDiff, Nat.reduceLT, and_self, List.foldl_cons, List.foldl_nil, Int.cast_ofNat_Int, Int.natCast_add, slots, wkL_nil, wkL_cons, wkB_nil, wkR_nil, wkV_j, wkV_d, frz_d, reduceCtorEq]
      · have e : mErr left right (l.getD k default) = 1 := by simp (implicitDefEqProofs := false) (dsimp := false) only [mErr, hb, Bool.and_false, Bool.false_eq_true, reduceIte]
        rw [g2 (by rw [e]; decide), e]
        simp (implicitDefEqProofs := false) (dsimp := false) only [hb, nc97, erD_1, ↓aw_seq, ↓aw_ret, ↓aw_reg, ↓Qseq_n, ↓Qseq_r, ↓Qblk_r, ↓Qret_r, ↓ops_nil, ↓ops_cons, ↓eval_tmp, ↓eval_int, ↓put_some, ↓vK_c, ↓op_assign, ↓op_iface, ↓td_d, ↓ret_1, ↓nc97, List.getD_cons_zero, List.getD_cons_succ, List.set_cons_zero, List.set_cons_succ, Bool.and_self, Nat.reduceAdd, Nat.reduceSub, Nat.reduceMul, evK_go, reduceIte, Bool.not_false, Nat.reduceEqDiff, Nat.reduceLT, and_self]
    · obtain rfl : k = l.length := by omega
      rw [List.take_length] at h2
      rw [h2]
      simp (implicitDefEqProofs := false) (dsimp := false) only [erD_0, eval_nilI, ↓aw_seq, ↓aw_exit, ↓aw_ret, ↓aw_reg, ↓Qseq_n, ↓Qseq_x, ↓Qblk_x, ↓Qret_r, ↓ops_nil, ↓ops_cons, ↓eval_tmp, ↓put_some, ↓op_assign, ↓td_d, ↓ret_1, List.getD_cons_zero, List.getD_cons_succ, List.set_cons_zero, List.set_cons_succ, Nat.reduceAdd, Nat.reduceSub, Nat.reduceMul, evK_go, reduceIte, decide_false, Nat.reduceEqDiff, Nat.reduceLT, Nat.lt_irrefl]
theorem mcheck_call (left right : Int) (l : List (Int × Int)) (pure : Bool) (σ : St) (dst : Option Tmp) (K : St → Prop) : CallH Try.prog 67 [I .i64 left, I .i64 right, .l (l.map lnD)] pure σ dst (.mk : Hid K) = OrH ((l.length < 2 ^ 62) ∧ (pure || D.flat (erD (mchk left right l))) = true ∧ evK (σ.put dst (.d (erD (mchk left right l)))) (.mk : Hid K)) (.mk : Hid (CallH Try.prog 67 [I .i64 left, I .i64 right, .l (l.map lnD)] pure σ dst (.mk : Hid K))) := CallH.eq (mcheck_spec left right l) pure σ dst K
theorem mcheck_callQ (left right : Int) (l : List (Int × Int)) (pure : Bool) (C : V → Prop) : CallQ Try.prog 67 [I .i64 left, I .i64 right, .l (l.map lnD)] pure (.mk : Hid C) = OrH ((l.length < 2 ^ 62) ∧ (pure || D.flat (erD (mchk left right l))) = true ∧ evK (V.d (erD (mchk left right l))) (.mk : Hid C)) (.mk : Hid (CallQ Try.prog 67 [I .i64 left, I .i64 right, .l (l.map lnD)] pure (.mk : Hid C))) := CallQ.eq (mcheck_spec left right l) pure C
/-- What two sides without fault are. -/
structure MOk (left right : Int) (l : List (Int × Int)) : Prop where
  l0 : left = (left.toNat : Int)
  r0 : right = (right.toNat : Int)
  lhi : left.toNat ≤ 6
  rhi : right.toNat ≤ 6
  len : l.length ≤ 24
  rng : ∀ p ∈ l, 0 ≤ p.1 ∧ 0 ≤ p.2
  sides : Sides left.toNat right.toNat (natL l)
theorem mchk_iff {left right : Int} {l : List (Int × Int)} : mchk left right l = 0 ↔ ((0 ≤ left ∧ left ≤ 6) ∧ 0 ≤ right ∧ right ≤ 6) ∧ l.length ≤ 24 ∧ ∀ p ∈ l, (0 ≤ p.1 ∧ p.1 ≤ left - 1) ∧ 0 ≤ p.2 ∧ p.2 ≤ right - 1 := by
  have hm : ∀ p, mErr left right p = 0 ↔ (0 ≤ p.1 ∧ p.1 ≤ left - 1) ∧ 0 ≤ p.2 ∧ p.2 ≤ right - 1 := fun p => by
    unfold mErr
    rw [← inB_iff, ← inB_iff, ← Bool.and_eq_true]
    split
    · rename_i h; exact ⟨fun _ => h, fun _ => rfl⟩
    · rename_i h; exact ⟨(fun h' => by cases h'), fun h' => absurd h' h⟩
  unfold mchk
  rw [← inB_iff, ← inB_iff, ← Bool.and_eq_true]
  split
  · rename_i h
    constructor
    · intro h; cases h
    · intro h'; rw [h] at h'; exact absurd h'.1 (by decide)
  · rename_i h
    have h : (inB left 0 6 && inB right 0 6) = true := by simpa using h
    split
    · constructor
      · intro h; cases h
      · intro h; omega
    · rw [firstErr_iff]
      constructor
      · intro h'; exact ⟨h, by omega, fun p hp => (hm p).1 (h' p hp)⟩
      · intro h' p hp; exact (hm p).2 (h'.2.2 p hp)
theorem mchk_ok {left right : Int} {l : List (Int × Int)} (h : mchk left right l = 0) : MOk left right l := by
  rw [mchk_iff] at h
  refine ⟨by omega, by omega, by omega, by omega, h.2.1, fun p hp => ⟨(h.2.2 p hp).1.1, (h.2.2 p hp).2.1⟩, fun p hp => ?_⟩
  obtain ⟨q, hq, rfl⟩ := List.mem_map.1 hp
  have := h.2.2 q hq
  simp (implicitDefEqProofs := false) (dsimp := false) only [natP]; omega
theorem MOk.pr {left right : Int} {l : List (Int × Int)} (h : MOk left right l) : left.toNat ≤ 8 ∧ right.toNat ≤ 8 ∧ (natL l).length < 2 ^ 62 ∧ Sides left.toNat right.toNat (natL l) := ⟨by have := h.lhi; omega, by have := h.rhi; omega, by rw [natL_len]; have := h.len; omega, h.sides⟩
def mostR (left right : Int) (l : List (Int × Int)) : Nat := if mchk left right l = 0 then mostK (kuhn left.toNat right.toNat (natL l)) else 0
def cntP (s : List Int) : Nat := s.countP fun x => decide (0 ≤ x)
theorem cntP_succ {s : List Int} {k : Nat} (h : k < s.length) : cntP (s.take (k + 1)) = cntP (s.take k) + if 0 ≤ s.getD k default then 1 else 0 := by
  unfold cntP
  rw [take_succ_getD h, List.countP_append]
  simp [List.countP_cons]
theorem cntP_most (s : List Int) : cntP s = mostK s := by
  unfold cntP mostK metR
  have e : s = (List.range s.length).map fun j => s.getD j default := by
    refine List.ext_getElem (by simp) fun i h1 h2 => ?_
    simp (implicitDefEqProofs := false) (dsimp := false) only [List.getElem_map, List.getElem_range]
    rw [List.getD_eq_getElem?_getD, List.getElem?_eq_getElem h1]; rfl
  conv => lhs; rw [e]
  rw [List.countP_map, List.countP_eq_length_filter]; rfl
theorem cntP_le (s : List Int) : cntP s ≤ s.length := List.countP_le_length
theorem most_spec (left right : Int) (l : List (Int × Int)) (hpre : l.length < 2 ^ 62) : FnD Try.prog 27 [I .i64 left, I .i64 right, .l (l.map lnD)] (.t [I .i64 (mostR left right l : Nat), erD (mchk left right l)]) := by
  refine FnD.go Try.func27 rfl rfl Try.results27 Try.ntmps27 ?_
  simp (implicitDefEqProofs := false) (dsimp := false) only [↓aw_seq, ↓aw_reg, ↓Qseq_n, ↓ops_nil, ↓ops_cons, ↓eval_tmp, ↓eval_int, ↓eval_func, ↓put_some, ↓op_move, ↓op_assign, ↓op_call, isD_d, ↓fnK_f, ↓call_H, ↓callK_H, ↓allT_nil, ↓allT_cons, ↓td_d, List.getD_cons_zero, List.getD_cons_succ, List.set_cons_zero, List.set_cons_succ, List.cons_append, List.nil_append, List.append_nil, List.map_cons, List.map_nil, List.length_cons, List.length_nil, List.all_cons, List.all_nil, Bool.and_self, Nat.reduceAdd, Nat.reduceSub, Nat.reduceMul, Nat.zero_add, List.replicate, evK_go, reduceIte, Nat.reduceEqDiff, Nat.reduceLT, and_self, Int.zero_add]
  simp (implicitDefEqProofs := false) (dsimp := false) only [mcheck_call, eval_nilI, ↓er_neq, er_flat, ↓cdK_not, ↓aw_cond, ↓aw_seq, ↓aw_reg, ↓Qseq_n, ↓ops_nil, ↓ops_cons, ↓eval_tmp, ↓put_some, ↓bK_b, ↓op_move, ↓op_assign, ↓op_bin, List.getD_cons_zero, List.getD_cons_succ, List.set_cons_zero, List.set_cons_succ, Bool.true_and, Bool.or_true, Nat.reduceAdd, Nat.reduceSub, Nat.reduceMul, evK_go, reduceIte, Nat.reduceEqDiff, Nat.reduceLT, true_and]
  refine OrH.l (OrH.l ⟨hpre, ?_⟩)
  refine cdK_dec (fun hc => ?_) (fun hc => ?_)
  rotate_left
  · simp (implicitDefEqProofs := false) (dsimp := false) only [mostR, hc, ↓aw_seq, ↓aw_ret, ↓aw_reg, ↓Qseq_n, ↓Qseq_r, ↓Qret_r, ↓ops_nil, ↓ops_cons, ↓eval_tmp, ↓eval_int, ↓put_some, ↓op_move, ↓op_assign, ↓td_d, ↓ret_2, List.getD_cons_zero, List.getD_cons_succ, List.set_cons_zero, List.set_cons_succ, Nat.reduceAdd, Nat.reduceSub, Nat.reduceMul, evK_go, reduceIte, decide_false, Bool.not_false, Nat.reduceEqDiff, Nat.reduceLT, Int.cast_ofNat_Int]
  have ok := mchk_ok hc
  rw [show mostR left right l = mostK (kuhn left.toNat right.toNat (natL l)) from if_pos hc, lnD_nat ok.rng, hc]
  have hpr := ok.pr
  have el := ok.l0
  have er := ok.r0
  have hkl : (kuhn left.toNat right.toNat (natL l)).length = right.toNat := (kuhn_end ok.sides (by have := ok.rhi; omega)).ok.len
  have hr8 := ok.rhi
  clear ok hc hpre
  generalize left.toNat = a at *
  generalize right.toNat = b at *
  subst el er
  generalize natL l = L at *
  simp (implicitDefEqProofs := false) (dsimp := false) only [pairs_callD, hpr, ↓aw_seq, ↓aw_block, ↓aw_skip, ↓aw_loop, ↓aw_reg, ↓Qseq_n, ↓ops_nil, ↓ops_cons, ↓eval_tmp, ↓eval_int, ↓eval_func, ↓put_some, ↓lenK_l, ↓op_move, ↓op_assign, ↓op_len, ↓op_call, isD_d, ↓fnK_f, ↓call_H, ↓callK_H, ↓allT_nil, ↓allT_cons, ↓td_d, ↓sl28, List.getD_cons_zero, List.getD_cons_succ, List.set_cons_zero, List.set_cons_succ, List.append_nil, List.length_map, List.all_cons, List.all_nil, Bool.true_and, Bool.and_self, Bool.true_or, Nat.reduceAdd, Nat.reduceSub, Nat.reduceMul, evK_go, reduceIte, decide_true, Bool.not_true, Nat.reduceEqDiff, Nat.reduceLT, and_self, true_and]
  (repeat refine OrH.l ?_)
  rw [← cntP_most]
  generalize kuhn a b L = H at hkl ⊢
  simp (implicitDefEqProofs := false) (dsimp := false) only [hkl]
  refine loopW (fun k : Nat => { tm := slots 34 [(9, .d (I .i64 (cntP (H.take k) : Nat))), (22, .d (.l (H.map (I .i64)))), (23, .d (I .i64 (b : Int))), (24, .d (I .i64 k))], bx := [], rw := [] })
    (fun k => k ≤ b) (fun k => b - k) 0 (by simp) ?_ ?_
  · refine Wkn.of [] [] ?_; simp (implicitDefEqProofs := false) (dsimp := false) only [cntP, List.countP_nil, List.set_cons_zero, List.set_cons_succ, Bool.and_self, Nat.reduceAdd, Nat.reduceSub, Nat.reduceMul, List.replicate, evK_go, reduceIte, Nat.reduceEqDiff, Nat.reduceLT, and_self, List.take_zero, List.foldl_cons, List.foldl_nil, Int.cast_ofNat_Int, slots, wkL_nil, wkL_cons, wkB_nil, wkR_nil, wkV_j, wkV_d, frz_d, reduceCtorEq]
  · intro k hk
    simp (implicitDefEqProofs := false) (dsimp := false) only [slots, ↓aw_cond, ↓aw_seq, ↓aw_reg, ↓Qseq_n, ↓ops_nil, ↓ops_cons, ↓eval_tmp, ↓put_some, ↓bK_b, ↓binE_i, ↓bi_lss, ↓op_bin, List.getD_cons_zero, List.getD_cons_succ, List.set_cons_zero, List.set_cons_succ, Nat.reduceAdd, Nat.reduceSub, Nat.reduceMul, List.replicate, evK_go, reduceIte, Nat.reduceEqDiff, Nat.reduceLT, List.foldl_cons, List.foldl_nil, Int.ofNat_lt]
    have hm := cntP_le (H.take k)
    rw [List.length_take] at hm
    refine cdK_dec (fun h => ?_) (fun h => ?_)
    · have hkH : k < H.length := by omega
      have hs := cntP_succ hkH
      simp (implicitDefEqProofs := false) (dsimp := false) only [hkH, ↓atK_H, ↓atH_map, ↓aw_cond, ↓aw_seq, ↓aw_block, ↓aw_skip, ↓aw_reg, ↓Qseq_n, ↓ops_nil, ↓ops_cons, ↓eval_tmp, ↓eval_int, ↓put_some, ↓bK_b, ↓iK_i, ↓binE_i, ↓bi_geq, ↓ldK_q, ↓iaK_l, ↓op_move, ↓op_assign, ↓op_load, ↓op_bin, ↓op_ia, ↓cells_c, ↓hd_cons, ↓ty3, ↓sl28, List.getD_cons_zero, List.getD_cons_succ, List.set_cons_zero, List.set_cons_succ, List.length_cons, List.length_nil, Bool.true_and, Nat.reduceAdd, Nat.reduceSub, Nat.reduceMul, Nat.zero_add, Int.toNat_natCast, evK_go, reduceIte, Nat.reduceEqDiff, Nat.reduceLT, true_and, Int.zero_add, Int.natCast_nonneg]
      refine cdK_dec (fun h1 => ?_) (fun h1 => ?_)
      · rw [if_pos h1] at hs
        simp (implicitDefEqProofs := false) (dsimp := false) only [↓aw_reg, ↓Qseq_n, ↓Qblk_n, ↓ops_nil, ↓ops_cons, ↓eval_tmp, ↓eval_int, ↓put_some, ↓binE_i, ↓bi_add, ↓in_i64, ↓op_move, ↓op_assign, ↓op_bin, List.getD_cons_zero, List.getD_cons_succ, List.set_cons_zero, List.set_cons_succ, Nat.reduceAdd, Nat.reduceSub, Nat.reduceMul, evK_go, reduceIte, Nat.reduceEqDiff, Nat.reduceLT]
        refine ⟨by omega, by omega, k + 1, by omega, by omega, ?_⟩
        refine Wkn.of [] [] ?_; simp (implicitDefEqProofs := false) (dsimp := false) only [hs, List.set_cons_zero, List.set_cons_succ, Bool.and_self, Nat.reduceAdd, Nat.reduceSub, Nat.reduceMul, List.replicate, evK_go, reduceIte, Nat.reduceEqDiff, Nat.reduceLT, and_self, List.foldl_cons, List.foldl_nil, Int.cast_ofNat_Int, Int.natCast_add, slots, wkL_nil, wkL_cons, wkB_nil, wkR_nil, wkV_j, wkV_d, frz_d, reduceCtorEq]
      · rw [if_neg h1] at hs
        simp (implicitDefEqProofs := false) (dsimp := false) only [↓aw_skip, ↓aw_reg, ↓Qseq_n, ↓Qblk_n, ↓ops_nil, ↓ops_cons, ↓eval_tmp, ↓eval_int, ↓put_some, ↓binE_i, ↓bi_add, ↓in_i64, ↓op_move, ↓op_bin, List.getD_cons_zero, List.getD_cons_succ, List.set_cons_zero, List.set_cons_succ, Nat.reduceAdd, Nat.reduceSub, Nat.reduceMul, evK_go, reduceIte, Nat.reduceEqDiff, Nat.reduceLT]
        refine ⟨by omega, k + 1, by omega, by omega, ?_⟩
        refine Wkn.of [] [] ?_; simp (implicitDefEqProofs := false) (dsimp := false) only [hs, List.set_cons_zero, List.set_cons_succ, Bool.and_self, Nat.reduceAdd, Nat.reduceSub, Nat.reduceMul, Nat.add_zero, List.replicate, evK_go, reduceIte, Nat.reduceEqDiff, Nat.reduceLT, and_self, List.foldl_cons, List.foldl_nil, Int.cast_ofNat_Int, Int.natCast_add, slots, wkL_nil, wkL_cons, wkB_nil, wkR_nil, wkV_j, wkV_d, frz_d, reduceCtorEq]
    · obtain rfl : k = b := by omega
      rw [List.take_of_length_le (by omega)]
      simp (implicitDefEqProofs := false) (dsimp := false) only [erD_0, eval_nilI, ↓aw_seq, ↓aw_exit, ↓aw_ret, ↓aw_reg, ↓Qseq_n, ↓Qseq_x, ↓Qblk_x, ↓Qret_r, ↓ops_nil, ↓ops_cons, ↓eval_tmp, ↓put_some, ↓op_move, ↓op_assign, ↓td_d, ↓ret_2, List.getD_cons_zero, List.getD_cons_succ, List.set_cons_zero, List.set_cons_succ, Nat.reduceAdd, Nat.reduceSub, Nat.reduceMul, evK_go, reduceIte, decide_false, Nat.reduceEqDiff, Nat.reduceLT, Nat.lt_irrefl]
theorem most_call (left right : Int) (l : List (Int × Int)) (pure : Bool) (σ : St) (dst : Option Tmp) (K : St → Prop) : CallH Try.prog 27 [I .i64 left, I .i64 right, .l (l.map lnD)] pure σ dst (.mk : Hid K) = OrH ((l.length < 2 ^ 62) ∧ (pure || D.flat (.t [I .i64 (mostR left right l : Nat), erD (mchk left right l)])) = true ∧ evK (σ.put dst (.d (.t [I .i64 (mostR left right l : Nat), erD (mchk left right l)]))) (.mk : Hid K)) (.mk : Hid (CallH Try.prog 27 [I .i64 left, I .i64 right, .l (l.map lnD)] pure σ dst (.mk : Hid K))) := CallH.eq (most_spec left right l) pure σ dst K
theorem most_callQ (left right : Int) (l : List (Int × Int)) (pure : Bool) (C : V → Prop) : CallQ Try.prog 27 [I .i64 left, I .i64 right, .l (l.map lnD)] pure (.mk : Hid C) = OrH ((l.length < 2 ^ 62) ∧ (pure || D.flat (.t [I .i64 (mostR left right l : Nat), erD (mchk left right l)])) = true ∧ evK (V.d (.t [I .i64 (mostR left right l : Nat), erD (mchk left right l)])) (.mk : Hid C)) (.mk : Hid (CallQ Try.prog 27 [I .i64 left, I .i64 right, .l (l.map lnD)] pure (.mk : Hid C))) := CallQ.eq (most_spec left right l) pure C
def covA (left right : Int) (l : List (Int × Int)) : List Nat := if mchk left right l = 0 then coverA left.toNat right.toNat (natL l) else []
def covB (left right : Int) (l : List (Int × Int)) : List Nat := if mchk left right l = 0 then coverB left.toNat right.toNat (natL l) else []
def met0K (left : Nat) (has : List Int) (k : Nat) : Nat := (has.take k).foldl (fun m h => if h < 0 then m else dif m (2 ^ h.toNat)) (2 ^ left - 1)
theorem met0K_succ (left : Nat) {has : List Int} {k : Nat} (h : k < has.length) : met0K left has (k + 1) = if has.getD k default < 0 then met0K left has k else dif (met0K left has k) (2 ^ (has.getD k default).toNat) := by
  unfold met0K
  rw [take_succ_getD h, List.foldl_append]; rfl
theorem met0K_lt {left : Nat} (hl : left ≤ 64) (has : List Int) (k : Nat) : met0K left has k < 2 ^ 64 := by
  unfold met0K
  generalize has.take k = L
  have h0 : 2 ^ left - 1 < 2 ^ 64 := by
    have h1 := Nat.one_le_two_pow (n := left)
    have h2 : 2 ^ left ≤ 2 ^ 64 := Nat.pow_le_pow_right (by omega) hl
    omega
  generalize 2 ^ left - 1 = m at h0
  induction L generalizing m with
  | nil => exact h0
  | cons x L ih =>
    refine ih _ ?_
    show (if _ then _ else _) < _
    split
    · exact h0
    · exact dif_lt h0
structure RC where
  met : Nat
  over : Nat
  pre : List Nat
  q : List Nat
structure RM where
  m : Nat
  s : CS
  pre : List Nat
theorem bits64 {s n : Nat} (h : ∀ i, s.testBit i = true → i < n) (hn : n ≤ 64) : s < 2 ^ 64 := by
  refine Nat.lt_pow_two_of_testBit _ fun i hi => ?_
  rw [← Bool.not_eq_true]
  intro h'
  have := h i h'; omega
theorem cover_spec (left right : Int) (l : List (Int × Int)) (hpre : l.length < 2 ^ 62) : FnD Try.prog 28 [I .i64 left, I .i64 right, .l (l.map lnD)] (.t [.l ((covA left right l).map nD), .l ((covB left right l).map nD), erD (mchk left right l)]) := by
  refine FnD.go Try.func28 rfl rfl Try.results28 Try.ntmps28 ?_
  simp (implicitDefEqProofs := false) (dsimp := false) only [↓aw_seq, ↓aw_reg, ↓Qseq_n, ↓ops_nil, ↓ops_cons, ↓eval_tmp, ↓eval_nil, ↓eval_func, ↓put_some, ↓op_move, ↓op_assign, ↓op_call, isD_d, ↓fnK_f, ↓call_H, ↓callK_H, ↓allT_nil, ↓allT_cons, ↓td_d, List.getD_cons_zero, List.getD_cons_succ, List.set_cons_zero, List.set_cons_succ, List.cons_append, List.nil_append, List.append_nil, List.map_cons, List.map_nil, List.length_cons, List.length_nil, List.all_cons, List.all_nil, Bool.and_self, Nat.reduceAdd, Nat.reduceSub, Nat.reduceMul, Nat.zero_add, List.replicate, evK_go, reduceIte, Nat.reduceEqDiff, Nat.reduceLT, and_self, Int.zero_add]
  simp (implicitDefEqProofs := false) (dsimp := false) only [mcheck_call, eval_nilI, ↓er_neq, er_flat, ↓cdK_not, ↓aw_cond, ↓aw_seq, ↓aw_reg, ↓Qseq_n, ↓ops_nil, ↓ops_cons, ↓eval_tmp, ↓put_some, ↓bK_b, ↓op_move, ↓op_assign, ↓op_bin, List.getD_cons_zero, List.getD_cons_succ, List.set_cons_zero, List.set_cons_succ, Bool.true_and, Bool.or_true, Nat.reduceAdd, Nat.reduceSub, Nat.reduceMul, evK_go, reduceIte, Nat.reduceEqDiff, Nat.reduceLT, true_and]
  refine OrH.l (OrH.l ⟨hpre, ?_⟩)
  refine cdK_dec (fun hc => ?_) (fun hc => ?_)
  rotate_left
  · simp (implicitDefEqProofs := false) (dsimp := false) only [covA, covB, hc, ↓aw_seq, ↓aw_ret, ↓aw_reg, ↓Qseq_n, ↓Qseq_r, ↓Qret_r, ↓ops_nil, ↓ops_cons, ↓eval_tmp, ↓eval_nil, ↓put_some, ↓op_move, ↓op_assign, ↓td_d, ↓td_nl, ↓ret_3, List.getD_cons_zero, List.getD_cons_succ, List.set_cons_zero, List.set_cons_succ, List.map_nil, Nat.reduceAdd, Nat.reduceSub, Nat.reduceMul, evK_go, reduceIte, decide_false, Bool.not_false, Nat.reduceEqDiff, Nat.reduceLT]
  have ok := mchk_ok hc
  rw [show covA left right l = coverA left.toNat right.toNat (natL l) from if_pos hc, show covB left right l = coverB left.toNat right.toNat (natL l) from if_pos hc, lnD_nat ok.rng, hc]
  have hpr := ok.pr
  have el := ok.l0
  have er := ok.r0
  have hkok := (kuhn_end ok.sides (by have := ok.rhi; omega)).ok
  have hr8 := ok.rhi
  have hl8 := ok.lhi
  clear ok hc hpre
  generalize left.toNat = a at *
  generalize right.toNat = b at *
  subst el er
  generalize natL l = L at *
  have hs := hpr.2.2.2
  have hmax : (if 1 > (a : Int) then (1 : Int) else (a : Int)) = ((max a 1 : Nat) : Int) := by split <;> omega
  have hout : max a 1 ≤ 64 ∧ L.length < 2 ^ 62 ∧ ∀ p ∈ L, p.1 < max a 1 ∧ p.2 < 64 := ⟨by omega, hpr.2.2.1, fun p hp => by have := hs p hp; omega⟩
  have ha64 : a < 64 := by omega
  obtain ⟨c1, c2, c3⟩ := CI.start (has := kuhn a b L) a b L (by omega)
  have hfin : cRun (outS (max a 1) L) (kuhn a b L) a (cStart a (kuhn a b L)) = coverS a b L := rfl
  have hkl : (kuhn a b L).length = b := hkok.len
  have hol := outS_len (max a 1) L
  have hlt : ∀ x ∈ outS (max a 1) L, x < 2 ^ 64 := outS_lt _ _ fun p hp => by have := hs p hp; omega
  simp (implicitDefEqProofs := false) (dsimp := false) only [hmax, out_callD, hout, pairs_callD, hpr, below_call, ha64, ↓nthK_H, ↓nthH_zero, ↓aw_seq, ↓aw_block, ↓aw_skip, ↓aw_loop, ↓aw_reg, ↓Qseq_n, ↓ops_nil, ↓ops_cons, ↓eval_tmp, ↓eval_int, ↓eval_func, ↓put_some, ↓put_none, ↓iK_i, ↓lenK_l, ↓ldK_p, ↓op_move, ↓op_assign, ↓op_load, ↓op_len, ↓op_max, ↓op_call, ↓op_alloc, ↓op_store, isD_d, ↓fnK_f, ↓call_H, ↓callK_H, ↓allT_nil, ↓allT_cons, ↓td_d, ↓addBox_mk, ↓setBox_mk, ↓st_bx, ↓vcells_c, ↓vcells_l, ↓vcells_nl, ↓one_i, ↓one_l, ↓vone_d, constV_i, constV_n, ↓st_p, ↓ty28, ↓sl28, ↓zb28, ↓ty87, ↓zb87, List.getD_cons_zero, List.getD_cons_succ, List.set_cons_zero, List.set_cons_succ, List.cons_append, List.nil_append, List.append_nil, List.length_cons, List.length_nil, List.length_map, List.all_cons, List.all_nil, Bool.true_and, Bool.and_self, Bool.true_or, Nat.reduceAdd, Nat.reduceSub, Nat.reduceMul, Nat.zero_add, evK_go, reduceIte, decide_true, Bool.not_true, Nat.reduceEqDiff, Nat.reduceLT, and_self, true_and, Int.zero_add]
  (repeat refine OrH.l ?_)
  refine ⟨hout.2.2, ?_⟩
  (repeat refine OrH.l ?_)
  have eA : coverA a b L = pts (dif (2 ^ a - 1) (coverS a b L).met) := rfl
  have eB : coverB a b L = pts (coverS a b L).over := rfl
  have hnx : ∀ x j, ((outS (max a 1) L).getD x default).testBit j = true → (x, j) ∈ L := fun x j h => ((outS_bit _ _ _ _).1 h).2
  have hstep : ∀ st : CS, CI a b L (kuhn a b L) st → Cl L st → st.todo ≠ [] → CI a b L (kuhn a b L) (cStep (outS (max a 1) L) (kuhn a b L) st) ∧ Cl L (cStep (outS (max a 1) L) (kuhn a b L) st) ∧ (cStep (outS (max a 1) L) (kuhn a b L) st).todo.length + Go.Aw.cnt st.met + 1 = st.todo.length + Go.Aw.cnt (cStep (outS (max a 1) L) (kuhn a b L) st).met := fun st h1 h2 h3 => CI.cStep hs (by omega) (by omega) hkok h1 h2 h3
  rw [eA, eB]
  have eS : cStart a (kuhn a b L) = ⟨met0K a (kuhn a b L) b, 0, pts (met0K a (kuhn a b L) b)⟩ := by
    unfold cStart met0K met0
    rw [List.take_of_length_le (by omega)]
  rw [eS] at c1 c2 c3 hfin
  generalize kuhn a b L = H at *
  generalize outS (max a 1) L = N at *
  generalize coverS a b L = F at *
  have hw64 := met0K_lt (left := a) (by omega) H
  simp (implicitDefEqProofs := false) (dsimp := false) only [hkl]
  refine loopW (fun k : Nat => { tm := slots 95 [(0, .d (I .i64 (a : Int))), (10, .d (.l (N.map U))), (11, .p 0 0), (12, .p 1 0), (13, .p 2 0), (36, .d (.l (H.map (I .i64)))), (37, .d (I .i64 (b : Int))), (38, .d (I .i64 k))], bx := [.d (.l (H.map (I .i64))), .d (U (met0K a H k)), .d (U 0)], rw := [] })
    (fun k => k ≤ b) (fun k => b - k) 0 (by simp) ?_ ?_
  · refine Wkn.of [0, 1, 2] [] ?_
    simp (implicitDefEqProofs := false) (dsimp := false) only [met0K, List.foldl_nil, ↓vcells_c, ↓vcells_l, List.getD_cons_zero, List.getD_cons_succ, List.set_cons_zero, List.set_cons_succ, List.length_cons, List.length_nil, Bool.and_self, Nat.reduceAdd, Nat.reduceSub, Nat.reduceMul, Nat.zero_add, List.replicate, evK_go, reduceIte, Nat.reduceEqDiff, Nat.reduceLT, and_self, Int.zero_add, List.take_zero, List.foldl_cons, List.foldl_nil, Int.cast_ofNat_Int, slots, wkL_nil, wkL_cons, wkB_nil, wkB_cons, wkR_nil, wkV_j, wkV_d, wkV_p, frz_d, pK_z, pK_s, dc_eq, reduceCtorEq]
  · intro k hk
    simp (implicitDefEqProofs := false) (dsimp := false) only [slots, ↓aw_cond, ↓aw_seq, ↓aw_reg, ↓Qseq_n, ↓ops_nil, ↓ops_cons, ↓eval_tmp, ↓put_some, ↓bK_b, ↓binE_i, ↓bi_lss, ↓op_bin, List.getD_cons_zero, List.getD_cons_succ, List.set_cons_zero, List.set_cons_succ, Nat.reduceAdd, Nat.reduceSub, Nat.reduceMul, List.replicate, evK_go, reduceIte, Nat.reduceEqDiff, Nat.reduceLT, List.foldl_cons, List.foldl_nil, Int.ofNat_lt]
    refine cdK_dec (fun h => ?_) (fun h => ?_)
    · have hkH : k < H.length := by omega
      have hms := met0K_succ a hkH
      simp (implicitDefEqProofs := false) (dsimp := false) only [hkH, ↓atK_H, ↓atH_map, ↓aw_cond, ↓aw_seq, ↓aw_block, ↓aw_skip, ↓aw_reg, ↓Qseq_n, ↓ops_nil, ↓ops_cons, ↓eval_tmp, ↓eval_int, ↓put_some, ↓bK_b, ↓iK_i, ↓binE_i, ↓bi_geq, ↓ldK_q, ↓iaK_l, ↓op_move, ↓op_assign, ↓op_load, ↓op_bin, ↓op_ia, ↓cells_c, ↓hd_cons, ↓ty3, ↓sl28, List.getD_cons_zero, List.getD_cons_succ, List.set_cons_zero, List.set_cons_succ, List.length_cons, List.length_nil, Bool.true_and, Nat.reduceAdd, Nat.reduceSub, Nat.reduceMul, Nat.zero_add, Int.toNat_natCast, evK_go, reduceIte, Nat.reduceEqDiff, Nat.reduceLT, true_and, Int.zero_add, Int.natCast_nonneg]
      refine cdK_dec (fun h1 => ?_) (fun h1 => ?_)
      · obtain ⟨x, hx1, hx2, _⟩ := hkok.nat h (by omega)
        rw [if_neg (by omega), hx2, Int.toNat_natCast] at hms
        have hx64 : x < 64 := by omega
        have hwk := hw64 k
        rw [hx2]
        simp (implicitDefEqProofs := false) (dsimp := false) only [without_call, hwk, hx64, ↓nthK_H, ↓nthH_zero, ↓aw_reg, ↓Qseq_n, ↓Qblk_n, ↓ops_nil, ↓ops_cons, ↓eval_tmp, ↓eval_int, ↓eval_func, ↓put_some, ↓put_none, ↓binE_i, ↓bi_add, ↓in_i64, ↓ldK_p, ↓op_move, ↓op_load, ↓op_bin, ↓op_call, ↓op_store, isD_d, ↓fnK_f, ↓call_H, ↓callK_H, ↓allT_nil, ↓allT_cons, ↓td_d, ↓setBox_mk, ↓st_bx, ↓vcells_c, ↓one_i, ↓vone_d, ↓st_p, ↓ty87, List.getD_cons_zero, List.getD_cons_succ, List.set_cons_zero, List.set_cons_succ, List.append_nil, List.length_cons, List.length_nil, List.all_cons, List.all_nil, Bool.true_and, Bool.and_self, Bool.true_or, Nat.reduceAdd, Nat.reduceSub, Nat.reduceMul, Nat.zero_add, evK_go, reduceIte, decide_true, Nat.reduceEqDiff, Nat.reduceLT, and_self, true_and, Int.zero_add, Int.natCast_nonneg]
        (repeat refine OrH.l ?_)
        refine ⟨by omega, k + 1, by omega, by omega, ?_⟩
        refine Wkn.of [0, 1, 2] [] ?_
        simp (implicitDefEqProofs := false) (dsimp := false) only [hms, ↓vcells_c, ↓vcells_l, List.getD_cons_zero, List.getD_cons_succ, List.set_cons_zero, List.set_cons_succ, List.length_cons, List.length_nil, Bool.and_self, Nat.reduceAdd, Nat.reduceSub, Nat.reduceMul, Nat.zero_add, List.replicate, evK_go, reduceIte, Nat.reduceEqDiff, Nat.reduceLT, and_self, Int.zero_add, List.foldl_cons, List.foldl_nil, Int.cast_ofNat_Int, Int.natCast_add, slots, wkL_nil, wkL_cons, wkB_nil, wkB_cons, wkR_nil, wkV_j, wkV_d, wkV_p, frz_d, pK_z, pK_s, reduceCtorEq]
      · rw [if_pos (by omega)] at hms
        simp (implicitDefEqProofs := false) (dsimp := false) only [↓aw_skip, ↓aw_reg, ↓Qseq_n, ↓Qblk_n, ↓ops_nil, ↓ops_cons, ↓eval_tmp, ↓eval_int, ↓put_some, ↓binE_i, ↓bi_add, ↓in_i64, ↓op_move, ↓op_bin, List.getD_cons_zero, List.getD_cons_succ, List.set_cons_zero, List.set_cons_succ, Nat.reduceAdd, Nat.reduceSub, Nat.reduceMul, evK_go, reduceIte, Nat.reduceEqDiff, Nat.reduceLT]
        refine ⟨by omega, k + 1, by omega, by omega, ?_⟩
        refine Wkn.of [0, 1, 2] [] ?_
        simp (implicitDefEqProofs := false) (dsimp := false) only [hms, ↓vcells_c, ↓vcells_l, List.getD_cons_zero, List.getD_cons_succ, List.set_cons_zero, List.set_cons_succ, List.length_cons, List.length_nil, Bool.and_self, Nat.reduceAdd, Nat.reduceSub, Nat.reduceMul, Nat.zero_add, List.replicate, evK_go, reduceIte, Nat.reduceEqDiff, Nat.reduceLT, and_self, Int.zero_add, List.foldl_cons, List.foldl_nil, Int.cast_ofNat_Int, Int.natCast_add, slots, wkL_nil, wkL_cons, wkB_nil, wkB_cons, wkR_nil, wkV_j, wkV_d, wkV_p, frz_d, pK_z, pK_s, reduceCtorEq]
    · obtain rfl : k = b := by omega
      have hwk := hw64 k
      simp (implicitDefEqProofs := false) (dsimp := false) only [list_call, hwk, rflat_I, ↓nthK_H, ↓nthH_zero, ↓aw_seq, ↓aw_block, ↓aw_exit, ↓aw_loop, ↓aw_reg, ↓Qseq_n, ↓Qseq_x, ↓Qblk_x, ↓ops_nil, ↓ops_cons, ↓eval_tmp, ↓eval_func, ↓put_some, ↓put_none, ↓ldK_p, ↓op_load, ↓op_call, ↓op_alloc, ↓op_store, isD_d, ↓fnK_f, ↓call_H, ↓callK_H, ↓allT_nil, ↓allT_cons, ↓td_d, ↓addBox_mk, ↓addRow_mk, ↓setBox_mk, ↓st_bx, ↓st_rw, ↓vcells_c, ↓vcells_nl, ↓vcells_o, ↓vone_o, constV_n, ↓st_p, ↓ty28, ↓zb28, ↓ty87, List.getD_cons_zero, List.getD_cons_succ, List.set_cons_zero, List.set_cons_succ, List.cons_append, List.nil_append, List.append_nil, List.length_cons, List.length_nil, List.length_map, List.all_cons, List.all_nil, Bool.true_and, Bool.and_self, Bool.or_true, Nat.reduceAdd, Nat.reduceSub, Nat.reduceMul, Nat.zero_add, evK_go, reduceIte, decide_false, Nat.reduceEqDiff, Nat.reduceLT, and_self, true_and, Nat.lt_irrefl, Int.zero_add]
      (repeat refine OrH.l ?_)
      refine loopW (fun st : RM => { tm := slots 95 [(0, .d (I .i64 (a : Int))), (10, .d (.l (N.map U))), (11, .p 0 0), (12, .p 1 0), (13, .p 2 0), (16, .p 3 0)], bx := [.d (.l (H.map (I .i64))), .d (U st.s.met), .d (U st.s.over), .o 0 st.pre.length st.s.todo.length], rw := [some ⟨1, (st.pre ++ st.s.todo).map nD⟩] })
        (fun st => CI a k L H st.s ∧ Cl L st.s ∧ st.s.todo.length + (a - Go.Aw.cnt st.s.met) ≤ st.m ∧ cRun N H st.m st.s = F ∧ st.m ≤ a) (fun st => st.m) ⟨a, ⟨met0K a H k, 0, pts (met0K a H k)⟩, []⟩ ⟨c1, c2, c3, hfin, Nat.le_refl _⟩ ?_ ?_
      · refine Wkn.of [0, 1, 2, 3] [some 0] ?_
        simp (implicitDefEqProofs := false) (dsimp := false) only [ptsI, List.map_map, ↓vcells_c, ↓vcells_l, ↓vcells_o, List.getD_cons_zero, List.getD_cons_succ, List.set_cons_zero, List.set_cons_succ, List.nil_append, List.length_cons, List.length_nil, List.length_map, Bool.and_true, Bool.true_and, Bool.and_self, Nat.reduceAdd, Nat.reduceSub, Nat.reduceMul, Nat.zero_add, List.replicate, evK_go, reduceIte, Nat.reduceEqDiff, Nat.reduceLT, and_self, true_and, and_true, Int.zero_add, List.foldl_cons, List.foldl_nil, Int.cast_ofNat_Int, slots, wkL_nil, wkL_cons, wkB_nil, wkB_cons, wkR_nil, wkR_some, wkV_j, wkV_d, wkV_o, wkV_p, frz_d, oK_zs, pK_z, pK_s, reduceCtorEq, Option.some.injEq]
        rfl
      · rintro ⟨m, s, pre⟩ ⟨i1, i2, i3, i4, i5⟩
        simp only at i1 i2 i3 i4 i5
        obtain ⟨met, over, todo⟩ := s
        have hm64 : met < 2 ^ 64 := bits64 i1.metLt (by omega)
        have ho64 : over < 2 ^ 64 := bits64 i1.overLt (by omega)
        simp (implicitDefEqProofs := false) (dsimp := false) only [slots, ↓optK_some, ↓rwK_mk_, ↓nthK_H, ↓nthH_zero, ↓aw_cond, ↓aw_seq, ↓aw_reg, ↓Qseq_n, ↓ops_nil, ↓ops_cons, ↓eval_tmp, ↓eval_int, ↓put_some, ↓bK_b, ↓lenK_o, ↓binE_i, ↓bi_gtr, ↓ldK_p, ↓op_load, ↓op_bin, ↓op_len, ↓vcells_o, ↓ty28, ↓sl28, List.getD_cons_zero, List.getD_cons_succ, List.set_cons_zero, List.set_cons_succ, Nat.reduceAdd, Nat.reduceSub, Nat.reduceMul, List.replicate, evK_go, reduceIte, Nat.reduceEqDiff, Nat.reduceLT, List.foldl_cons, List.foldl_nil]
        cases todo with
        | nil =>
          have e0 : F = ⟨met, over, []⟩ := by
            rw [← i4]
            cases m with
            | zero => rfl
            | succ m => exact if_pos rfl
          refine cdK_dec (fun h1 => by simp at h1) (fun h1 => ?_)
          subst e0
          have hw0 : 2 ^ a - 1 < 2 ^ 64 := by
            have h1 := Nat.one_le_two_pow (n := a)
            have h2 : 2 ^ a ≤ 2 ^ 64 := Nat.pow_le_pow_right (by omega) (by omega)
            omega
          have hdw := dif_lt (n := met) hw0
          simp (implicitDefEqProofs := false) (dsimp := false) only [below_callQ, ha64, hm64, ho64, hw0, hdw, list_callDQ, eval_nilI, ↓nthK_H, ↓nthH_zero, ↓aw_seq, ↓aw_exit, ↓aw_ret, ↓aw_draw, ↓Qseq_n, ↓Qseq_x, ↓Qblk_x, ↓Qret_r, ↓eval_tmp, ↓eval_func, ↓put_some, ↓ev_move, ↓ev_assign, ↓ev_load, ↓ev_bin, ↓binE_i, ↓bi_andNot, ↓ldK_p, isD_d, ↓fnK_f, ↓callKQ_H, ↓allT_nil, ↓allT_cons, ↓td_d, ↓ret_3, ↓draw_H, ↓h_nil, ↓h_cons, ↓ldH_n, ↓q_call, ↓q_move, ↓q_assign, ↓q_load, ↓q_bin, ↓il_move, ↓il_assign, ↓il_load, ↓il_bin, ↓il_call, ↓vcells_c, ↓ty87, List.getD_cons_zero, List.getD_cons_succ, List.set_cons_zero, List.set_cons_succ, List.append_nil, List.length_nil, List.all_cons, List.all_nil, Bool.true_and, Bool.and_self, Bool.true_or, Nat.reduceAdd, Nat.reduceSub, Nat.reduceMul, evK_go, reduceIte, Nat.reduceEqDiff, Nat.reduceLT, and_self, true_and, Int.cast_ofNat_Int]
          refine OrH.l ⟨DrawH.of follows_mixed (by kernel_rfl), ?_⟩
          (repeat refine OrH.l ?_)
          simp (implicitDefEqProofs := false) (dsimp := false) only [nD_ints, ptsI, erD_0]
        | cons x t =>
          refine cdK_dec (fun h1 => ?_) (fun h1 => absurd h1 (by simp))
          have hst := hstep ⟨met, over, x :: t⟩ i1 i2 (by simp)
          have hxa : x < a := i1.metLt x (i1.todo x (by simp))
          have hxN : x < N.length := by omega
          have hnb := hlt _ (getD_mem hxN)
          have hd := dif_lt (n := over) hnb
          simp (implicitDefEqProofs := false) (dsimp := false) only [List.length_cons, List.map_append, List.map_cons, nD, hxN, hnb, ho64, each_callQ, ↓optK_some, ↓rwK_mk_, ↓atK_H, ↓atH_map, ↓atH_appmap, ↓nthK_H, ↓nthH_zero, ↓aw_seq, ↓aw_block, ↓aw_skip, ↓aw_rng, ↓aw_draw, ↓Qseq_n, ↓eval_tmp, ↓eval_int, ↓eval_func, ↓put_some, ↓iK_i, ↓ev_move, ↓ev_load, ↓ev_bin, ↓ev_ia, ↓binE_i, ↓bi_andNot, ↓ldK_q, ↓ldK_p, ↓ldK_e, ↓iaK_l, ↓iaK_o, isD_d, ↓fnK_f, ↓callKQ_H, ↓allT_nil, ↓allT_cons, ↓td_d, ↓draw_H, ↓h_nil, ↓h_cons, ↓ldH_n, ↓q_call, ↓q_move, ↓q_load, ↓q_bin, ↓q_ia, ↓il_move, ↓il_load, ↓il_bin, ↓il_ia, ↓il_call, ↓row_sz, ↓row_xs, ↓cells_c, ↓vcells_c, ↓vcells_o, ↓hd_cons, ↓ty3, ↓ty28, ↓sl28, ↓sl84, ↓ty87, List.getD_cons_zero, List.getD_cons_succ, List.set_cons_zero, List.set_cons_succ, List.append_nil, List.map_cons, List.length_cons, List.length_nil, List.all_cons, List.all_nil, Bool.true_and, Bool.and_self, Bool.true_or, Nat.reduceAdd, Nat.reduceSub, Nat.reduceMul, Nat.zero_add, Nat.add_zero, Int.toNat_natCast, Int.toNat_zero, evK_go, reduceIte, Nat.reduceEqDiff, Nat.reduceLT, and_self, true_and, Int.zero_add, Int.cast_ofNat_Int, Int.natCast_add, Int.natCast_nonneg]
          refine OrH.l ⟨DrawH.of follows_mixed (by kernel_rfl), ⟨by omega, by omega⟩, ?_⟩
          (repeat refine OrH.l ?_)
          have hcm : ∀ j ∈ pts (dif (N.getD x default) over), (x, j) ∈ L := fun j hj => by
            have h3 := ((pts_mem _ _).1 hj).2
            rw [dif_bit, Bool.and_eq_true] at h3
            exact hnx x j h3.1
          refine rangeW (slots 95 [(0, .d (I .i64 (a : Int))), (10, .d (.l (N.map U))), (11, .p 0 0), (12, .p 1 0), (13, .p 2 0), (16, .p 3 0), (63, .d (.f (.func 99) [.q [U (dif (N.getD x default) over)]]))])
            (fun st : RC => [.d (.l (H.map (I .i64))), .d (U st.met), .d (U st.over), .o 0 st.pre.length st.q.length]) (fun st : RC => [some ⟨1, (st.pre ++ st.q).map nD⟩])
            (fun ys st => ∃ P : List Nat, ys = P.map Int.ofNat ∧ (⟨st.met, st.over, st.q⟩ : CS) = P.foldl (cJ H) ⟨met, over, x :: t⟩ ∧ st.met < 2 ^ 64 ∧ st.over < 2 ^ 64 ∧ st.q.length ≤ t.length + 1 + P.length ∧ 1 ≤ st.q.length) ⟨met, over, pre, x :: t⟩
            (by simp [slots]) (each_iter _ hd) ?_ ⟨[], rfl, rfl, hm64, ho64, by simp, by simp⟩ ?_ ?_ ?_
          · simp (implicitDefEqProofs := false) (dsimp := false) only [slots, ↓eval_tmp, List.getD_cons_zero, List.getD_cons_succ, List.set_cons_zero, List.set_cons_succ, Nat.reduceAdd, Nat.reduceSub, Nat.reduceMul, List.replicate, evK_go, reduceIte, Nat.reduceEqDiff, Nat.reduceLT, List.foldl_cons, List.foldl_nil]
          · refine Wkn.of [0, 1, 2, 3] [some 0] ?_
            simp (implicitDefEqProofs := false) (dsimp := false) only [nD, List.map_append, List.map_cons, List.length_cons, ↓vcells_c, ↓vcells_l, ↓vcells_o, List.getD_cons_zero, List.getD_cons_succ, List.set_cons_zero, List.set_cons_succ, List.map_cons, List.length_cons, List.length_nil, Bool.and_self, Nat.reduceAdd, Nat.reduceSub, Nat.reduceMul, Nat.zero_add, List.replicate, evK_go, reduceIte, Nat.reduceEqDiff, Nat.reduceLT, and_self, Int.zero_add, List.foldl_cons, List.foldl_nil, slots, wkL_nil, wkL_cons, wkB_nil, wkB_cons, wkR_nil, wkR_some, wkV_j, wkV_d, wkV_o, wkV_p, frz_d, oK_zs, pK_z, pK_s, reduceCtorEq]
          · rintro ys y ⟨met', over', pre', q'⟩ hpx ⟨P, rfl, hP1, hm', ho', hq', hq1⟩
            obtain ⟨P', c, hP, rfl, hcc⟩ := prefix_map hpx
            obtain rfl : P = P' := ofNat_inj hP
            simp only at hP1 hm' ho' hq' hq1
            have hcb : c < k := (hs _ (hcm c (hcc.subset (by simp : c ∈ P ++ [c])))).2
            have hcH : c < H.length := by omega
            have hc64 : c < 64 := by omega
            have hPl : P.length + 1 ≤ 64 := by
              have h3 := hcc.length_le
              have h4 := pts_len (dif (N.getD x default) over)
              simp (implicitDefEqProofs := false) (dsimp := false) only [List.length_append, List.length_cons, List.length_nil] at h3
              omega
            have hq64 : t.length + 1 ≤ 64 := by simp (implicitDefEqProofs := false) (dsimp := false) only [List.length_cons] at i3; omega
            have hfold : (P ++ [c]).foldl (cJ H) ⟨met, over, x :: t⟩ = cJ H ⟨met', over', q'⟩ c := by rw [List.foldl_append, ← hP1]; rfl
            have hor : over' ||| 2 ^ c < 2 ^ 64 := Nat.or_lt_two_pow ho' (Nat.pow_lt_pow_right (by omega) hc64)
            simp (implicitDefEqProofs := false) (dsimp := false) only [slots, with_call, ho', hc64, hcH, ↓gdK_t, ↓gval_mk, ↓gvL_zero, ↓gvL_succ, ↓atK_H, ↓atH_map, ↓nthK_H, ↓nthH_zero, ↓aw_seq, ↓aw_block, ↓aw_reg, ↓Qseq_n, ↓ops_nil, ↓ops_cons, ↓ops_guard, ↓eval_tmp, ↓eval_int, ↓eval_func, ↓put_some, ↓put_none, ↓iK_i, ↓binE_i, ↓bi_geq, ↓ldK_q, ↓ldK_p, ↓iaK_l, ↓op_move, ↓op_assign, ↓op_load, ↓op_bin, ↓op_ia, ↓op_call, ↓op_store, isD_d, ↓fnK_f, ↓call_H, ↓callK_H, ↓allT_nil, ↓allT_cons, ↓td_d, ↓setBox_mk, ↓st_tm, ↓st_bx, ↓cells_c, ↓vcells_c, ↓vcells_l, ↓one_i, ↓vone_d, ↓st_p, ↓hd_cons, ↓Qn_n, ↓ty3, ↓ty28, ↓sl28, ↓ty87, List.getD_cons_zero, List.getD_cons_succ, List.set_cons_zero, List.set_cons_succ, List.append_nil, List.length_cons, List.length_nil, List.all_cons, List.all_nil, Bool.true_and, Bool.and_self, Bool.true_or, Nat.reduceAdd, Nat.reduceSub, Nat.reduceMul, Nat.zero_add, Int.toNat_natCast, List.replicate, evK_go, reduceIte, Nat.reduceEqDiff, Nat.reduceLT, and_self, true_and, Int.zero_add, List.foldl_cons, List.foldl_nil, Int.natCast_nonneg]
            refine OrH.l (OrH.l (cdK_dec (fun h3 => ?_) (fun h3 => ?_)))
            · obtain ⟨z, hz1, hz2, _⟩ := hkok.nat hcb (by omega)
              have hd3 : decide (0 ≤ H.getD c default) = true := decide_eq_true h3
              have hz64 : z < 64 := by omega
              have hz64' : z ≤ 64 := by omega
              rw [hz2] at hd3 ⊢
              simp (implicitDefEqProofs := false) (dsimp := false) only [hasS_call, hm', hz64', ↓cdK_true, ↓cdK_not, ↓gdK_t, ↓gval_mk, ↓gvL_zero, ↓gvL_succ, ↓nthK_H, ↓nthH_zero, ↓aw_cond, ↓Qseq_n, ↓ops_nil, ↓ops_cons, ↓ops_guard, ↓eval_tmp, ↓eval_func, ↓put_some, ↓bK_b, ↓ldK_p, ↓op_move, ↓op_pick, ↓op_load, ↓op_not, ↓op_call, isD_d, ↓fnK_f, ↓call_H, ↓callK_H, ↓allT_nil, ↓allT_cons, ↓td_d, ↓st_tm, ↓vcells_c, ↓ty87, List.getD_cons_zero, List.getD_cons_succ, List.set_cons_zero, List.set_cons_succ, List.append_nil, List.all_cons, List.all_nil, Bool.true_and, Bool.and_self, Bool.true_or, Nat.reduceAdd, Nat.reduceSub, Nat.reduceMul, evK_go, reduceIte, decide_true, Nat.reduceEqDiff, Nat.reduceLT, and_self, true_and, Int.natCast_nonneg]
              refine OrH.l (OrH.l (cdK_split (fun h4 => ?_) (fun h4 => ?_)))
              · have e : cJ H ⟨met', over', q'⟩ c = ⟨met', over' ||| 2 ^ c, q'⟩ := by
                  unfold cJ
                  rw [if_neg (by omega), if_pos (by rw [hz2, Int.toNat_natCast]; exact h4)]
                rw [e] at hfold
                simp (implicitDefEqProofs := false) (dsimp := false) only [↓aw_skip, ↓Qblk_n, ↓Qrd_n, ↓back_mk, Nat.reduceAdd, Nat.reduceSub, Nat.reduceMul, evK_go, reduceIte, Nat.reduceEqDiff, Nat.reduceLT]
                refine ⟨⟨met', over' ||| 2 ^ c, pre', q'⟩, ⟨P ++ [c], by simp, hfold.symm, hm', hor, by simp; omega, hq1⟩, ?_⟩
                refine Wkn.of [0, 1, 2, 3] [some 0] ?_
                simp (implicitDefEqProofs := false) (dsimp := false) only [↓vcells_c, ↓vcells_l, ↓vcells_o, List.getD_cons_zero, List.getD_cons_succ, List.set_cons_zero, List.set_cons_succ, List.length_cons, List.length_nil, Bool.and_self, Nat.reduceAdd, Nat.reduceSub, Nat.reduceMul, Nat.zero_add, List.replicate, evK_go, reduceIte, Nat.reduceEqDiff, Nat.reduceLT, and_self, Int.zero_add, List.foldl_cons, List.foldl_nil, slots, wkL_nil, wkL_cons, wkB_nil, wkB_cons, wkR_nil, wkR_some, wkV_j, wkV_d, wkV_o, wkV_p, frz_d, oK_zs, pK_z, pK_s, reduceCtorEq]
              · have e : cJ H ⟨met', over', q'⟩ c = ⟨met' ||| 2 ^ z, over' ||| 2 ^ c, q' ++ [z]⟩ := by
                  unfold cJ
                  rw [if_neg (by omega), hz2, Int.toNat_natCast, if_neg (by rw [h4]; decide)]
                rw [e] at hfold
                have hmz : met' ||| 2 ^ z < 2 ^ 64 := Nat.or_lt_two_pow hm' (Nat.pow_lt_pow_right (by omega) hz64)
                simp (implicitDefEqProofs := false) (dsimp := false) only [h4, with_call, hm', hz64, ↓optK_some, ↓rwK_mk_, ↓nthK_H, ↓nthH_zero, ↓aw_seq, ↓aw_reg, ↓Qseq_n, ↓Qblk_n, ↓ops_nil, ↓ops_cons, ↓eval_tmp, ↓eval_func, ↓put_some, ↓put_none, ↓dK_d, ↓ldK_p, ↓op_move, ↓op_load, ↓op_append, ↓op_call, ↓op_store, isD_d, ↓fnK_f, ↓call_H, ↓callK_H, ↓allT_nil, ↓allT_cons, ↓allD_nil, ↓allD_cons, ↓td_d, ↓setBox_mk, ↓app_mk, ↓st_bx, ↓row_sz, ↓row_xs, kill_d, kill_j, kill_p, kill_o, ↓cells_c, ↓vcells_c, ↓vcells_j, ↓vcells_o, ↓one_i, ↓vone_d, ↓vone_o, ↓st_p, ↓ap_, ↓ap_o, ↓src_l, ↓bs_, ↓op_bs, ↓bsL_f, ↓stored_mk, ↓sl_nil, ↓sl_cons, ↓st_store_t, ↓sT_move, ↓sT_load, ↓sT_bs, ↓sT_call, ↓beq_some, ↓vsz_int, ↓inO_1, ↓fm_nil, ↓fm_cons, ↓Qrd_n, ↓back_mk, ↓ty3, ↓zb3, ↓ty28, ↓sl28, ↓ty87, List.getD_cons_zero, List.getD_cons_succ, List.set_cons_zero, List.set_cons_succ, List.append_nil, List.map_cons, List.map_nil, List.length_cons, List.length_nil, List.length_map, List.all_cons, List.all_nil, Bool.true_and, Bool.and_self, Bool.true_or, Bool.or_false, Nat.reduceAdd, Nat.reduceSub, Nat.reduceMul, Nat.zero_add, evK_go, reduceIte, decide_false, Bool.not_false, Nat.reduceEqDiff, Nat.reduceLT, and_self, true_and, Int.zero_add]
                have edr : List.drop pre'.length (List.map nD pre' ++ List.map nD q') = List.map nD q' := drop_appmap _ _ _
                refine OrH.l (OrH.l ⟨by decide, ⟨by simp, by simp, by omega, by omega⟩, ⟨met' ||| 2 ^ z, over' ||| 2 ^ c, [], q' ++ [z]⟩, ⟨P ++ [c], by simp, hfold.symm, hmz, hor, by simp; omega, by simp⟩, ?_⟩)
                refine Wkn.of [0, 1, 2, 3] [some 0] ?_
                simp (implicitDefEqProofs := false) (dsimp := false) only [edr, nD, List.map_append, List.length_append, ↓vcells_c, ↓vcells_l, ↓vcells_o, List.getD_cons_zero, List.getD_cons_succ, List.set_cons_zero, List.set_cons_succ, List.nil_append, List.map_cons, List.map_nil, List.length_cons, List.length_nil, Bool.and_self, Nat.reduceAdd, Nat.reduceSub, Nat.reduceMul, Nat.zero_add, List.replicate, evK_go, reduceIte, Nat.reduceEqDiff, Nat.reduceLT, and_self, Int.zero_add, List.foldl_cons, List.foldl_nil, slots, wkL_nil, wkL_cons, wkB_nil, wkB_cons, wkR_nil, wkR_some, wkV_j, wkV_d, wkV_o, wkV_p, frz_d, oK_zs, pK_z, pK_s, reduceCtorEq]
            · have hd3 : decide (0 ≤ H.getD c default) = false := decide_eq_false h3
              have e : cJ H ⟨met', over', q'⟩ c = ⟨met', over' ||| 2 ^ c, q'⟩ := by
                unfold cJ
                rw [if_pos (by omega)]
              rw [e] at hfold
              simp (implicitDefEqProofs := false) (dsimp := false) only [hd3, ↓cdK_false, ↓gdK_t, ↓gval_mk, ↓gvL_zero, ↓gvL_succ, ↓aw_cond, ↓aw_skip, ↓Qseq_n, ↓Qblk_n, ↓ops_nil, ↓ops_cons, ↓ops_guard, ↓eval_tmp, ↓eval_bool, ↓put_some, ↓bK_b, ↓op_pick, ↓st_tm, ↓Qrd_n, ↓back_mk, List.getD_cons_zero, List.getD_cons_succ, List.set_cons_zero, List.set_cons_succ, Nat.reduceAdd, Nat.reduceSub, Nat.reduceMul, evK_go, reduceIte, Nat.reduceEqDiff, Nat.reduceLT]
              refine ⟨⟨met', over' ||| 2 ^ c, pre', q'⟩, ⟨P ++ [c], by simp, hfold.symm, hm', hor, by simp; omega, hq1⟩, ?_⟩
              refine Wkn.of [0, 1, 2, 3] [some 0] ?_
              simp (implicitDefEqProofs := false) (dsimp := false) only [↓vcells_c, ↓vcells_l, ↓vcells_o, List.getD_cons_zero, List.getD_cons_succ, List.set_cons_zero, List.set_cons_succ, List.length_cons, List.length_nil, Bool.and_self, Nat.reduceAdd, Nat.reduceSub, Nat.reduceMul, Nat.zero_add, List.replicate, evK_go, reduceIte, Nat.reduceEqDiff, Nat.reduceLT, and_self, Int.zero_add, List.foldl_cons, List.foldl_nil, slots, wkL_nil, wkL_cons, wkB_nil, wkB_cons, wkR_nil, wkR_some, wkV_j, wkV_d, wkV_o, wkV_p, frz_d, oK_zs, pK_z, pK_s, reduceCtorEq]
          · rintro ⟨met', over', pre', q'⟩ ⟨P, hP, hP1, hm', ho', hq', hq1⟩
            obtain rfl : pts (dif (N.getD x default) over) = P := ofNat_inj hP
            simp only at hP1 hm' ho' hq' hq1
            have hcs : cStep N H ⟨met, over, x :: t⟩ = ⟨met', over', q'.drop 1⟩ := by
              show (⟨(cIn N H ⟨met, over, x :: t⟩ x).met, (cIn N H ⟨met, over, x :: t⟩ x).over, (cIn N H ⟨met, over, x :: t⟩ x).todo.drop 1⟩ : CS) = _
              have : cIn N H ⟨met, over, x :: t⟩ x = ⟨met', over', q'⟩ := hP1.symm
              rw [this]
            rw [hcs] at hst
            simp (implicitDefEqProofs := false) (dsimp := false) only [slots, ↓optK_some, ↓rwK_mk_, ↓nthK_H, ↓nthH_zero, ↓aw_seq, ↓aw_reg, ↓Qseq_n, ↓Qblk_n, ↓ops_nil, ↓ops_cons, ↓eval_tmp, ↓eval_int, ↓put_some, ↓put_none, ↓iK_i, ↓optI_none, ↓optI_some, ↓ldK_p, ↓sliK_o, ↓op_load, ↓op_slice, ↓op_alloc, ↓op_store, ↓addBox_mk, ↓setBox_mk, ↓st_bx, ↓row_sz, ↓vcells_nl, ↓vcells_o, ↓vone_o, constV_n, ↓st_p, ↓ty3, ↓ty28, ↓sl28, ↓zb28, List.getD_cons_zero, List.getD_cons_succ, List.set_cons_zero, List.set_cons_succ, List.cons_append, List.nil_append, List.length_cons, List.length_nil, List.all_cons, List.all_nil, Bool.true_and, Bool.and_self, Nat.reduceAdd, Nat.reduceSub, Nat.reduceMul, Nat.zero_add, Int.toNat_one, List.replicate, evK_go, reduceIte, Nat.reduceEqDiff, Nat.reduceLT, and_self, true_and, Option.getD_none, Option.getD_some, Int.zero_add, List.foldl_cons, List.foldl_nil, Int.ofNat_le]
            obtain ⟨y, q'', rfl⟩ : ∃ y q'', q' = y :: q'' := by
              cases q' with
              | nil => simp at hq1
              | cons y q'' => exact ⟨y, q'', rfl⟩
            simp (implicitDefEqProofs := false) (dsimp := false) only [List.drop_succ_cons, List.drop_zero] at hst hcs
            obtain ⟨g1, g2, g3⟩ := hst
            simp (implicitDefEqProofs := false) (dsimp := false) only [List.length_cons] at g3 i3
            have g4 := g1.cnt
            simp only at g4
            cases m with
            | zero => omega
            | succ m =>
              have i6 : cRun N H m ⟨met', over', q''⟩ = F := by
                rw [← i4, ← hcs]
                show _ = if _ then _ else _
                rw [if_neg (by simp)]
              have i7 : t.length + 1 + (a - Go.Aw.cnt met) ≤ m + 1 := i3
              refine ⟨⟨by omega, by rw [List.length_cons]; omega, Nat.le_refl _⟩, ⟨m, ⟨met', over', q''⟩, pre' ++ [y]⟩, ⟨g1, g2, ?_, i6, by show m ≤ a; omega⟩, Nat.lt_succ_self m, ?_⟩
              · show q''.length + (a - Go.Aw.cnt met') ≤ m
                omega
              · refine Wkn.of [0, 1, 2, 4] [some 0] ?_
                simp (implicitDefEqProofs := false) (dsimp := false) only [List.length_append, List.length_cons, ↓vcells_c, ↓vcells_l, ↓vcells_o, List.getD_cons_zero, List.getD_cons_succ, List.length_cons, List.length_nil, Bool.and_true, Bool.true_and, Bool.and_self, Nat.reduceAdd, Nat.reduceSub, Nat.reduceMul, Nat.zero_add, evK_go, reduceIte, Nat.reduceEqDiff, Nat.reduceLT, and_self, true_and, and_true, Int.zero_add, Int.cast_ofNat_Int, Int.natCast_add, slots, wkL_nil, wkL_cons, wkB_nil, wkB_cons, wkR_nil, wkR_some, wkV_j, wkV_d, wkV_o, wkV_p, frz_d, oK_zs, pK_z, pK_s, vo_eq, reduceCtorEq, Option.some.injEq]
                exact ⟨by omega, by simp⟩
theorem cover_call (left right : Int) (l : List (Int × Int)) (pure : Bool) (σ : St) (dst : Option Tmp) (K : St → Prop) : CallH Try.prog 28 [I .i64 left, I .i64 right, .l (l.map lnD)] pure σ dst (.mk : Hid K) = OrH ((l.length < 2 ^ 62) ∧ (pure || D.flat (.t [.l ((covA left right l).map nD), .l ((covB left right l).map nD), erD (mchk left right l)])) = true ∧ evK (σ.put dst (.d (.t [.l ((covA left right l).map nD), .l ((covB left right l).map nD), erD (mchk left right l)]))) (.mk : Hid K)) (.mk : Hid (CallH Try.prog 28 [I .i64 left, I .i64 right, .l (l.map lnD)] pure σ dst (.mk : Hid K))) := CallH.eq (cover_spec left right l) pure σ dst K
theorem cover_callQ (left right : Int) (l : List (Int × Int)) (pure : Bool) (C : V → Prop) : CallQ Try.prog 28 [I .i64 left, I .i64 right, .l (l.map lnD)] pure (.mk : Hid C) = OrH ((l.length < 2 ^ 62) ∧ (pure || D.flat (.t [.l ((covA left right l).map nD), .l ((covB left right l).map nD), erD (mchk left right l)])) = true ∧ evK (V.d (.t [.l ((covA left right l).map nD), .l ((covB left right l).map nD), erD (mchk left right l)])) (.mk : Hid C)) (.mk : Hid (CallQ Try.prog 28 [I .i64 left, I .i64 right, .l (l.map lnD)] pure (.mk : Hid C))) := CallQ.eq (cover_spec left right l) pure C
def mfL : List (Int × Int) := [(0, 0), (1, 0)]
theorem mf1_spec  : FnD Try.prog 27 [I .i64 2, I .i64 1, .l [.s [I .i64 0, I .i64 0], .s [I .i64 1, I .i64 0]]] (.t [I .i64 1, erD 0]) := by
  have h := most_spec 2 1 mfL (by decide)
  rw [show mostR 2 1 mfL = 1 by decide +kernel, show mchk 2 1 mfL = 0 by decide +kernel] at h
  exact h
theorem mf1_call  (pure : Bool) (σ : St) (dst : Option Tmp) (K : St → Prop) : CallH Try.prog 27 [I .i64 2, I .i64 1, .l [.s [I .i64 0, I .i64 0], .s [I .i64 1, I .i64 0]]] pure σ dst (.mk : Hid K) = OrH ((pure || D.flat (.t [I .i64 1, erD 0])) = true ∧ evK (σ.put dst (.d (.t [I .i64 1, erD 0]))) (.mk : Hid K)) (.mk : Hid (CallH Try.prog 27 [I .i64 2, I .i64 1, .l [.s [I .i64 0, I .i64 0], .s [I .i64 1, I .i64 0]]] pure σ dst (.mk : Hid K))) := CallH.eq0 (mf1_spec ) pure σ dst K
theorem mf1_callQ  (pure : Bool) (C : V → Prop) : CallQ Try.prog 27 [I .i64 2, I .i64 1, .l [.s [I .i64 0, I .i64 0], .s [I .i64 1, I .i64 0]]] pure (.mk : Hid C) = OrH ((pure || D.flat (.t [I .i64 1, erD 0])) = true ∧ evK (V.d (.t [I .i64 1, erD 0])) (.mk : Hid C)) (.mk : Hid (CallQ Try.prog 27 [I .i64 2, I .i64 1, .l [.s [I .i64 0, I .i64 0], .s [I .i64 1, I .i64 0]]] pure (.mk : Hid C))) := CallQ.eq0 (mf1_spec ) pure C
theorem mf2_spec  : FnD Try.prog 28 [I .i64 2, I .i64 1, .l [.s [I .i64 0, I .i64 0], .s [I .i64 1, I .i64 0]]] (.t [.l [], .l [I .i64 0], erD 0]) := by
  have h := cover_spec 2 1 mfL (by decide)
  rw [show covA 2 1 mfL = [] by decide +kernel, show covB 2 1 mfL = [0] by decide +kernel, show mchk 2 1 mfL = 0 by decide +kernel] at h
  exact h
theorem mf2_call  (pure : Bool) (σ : St) (dst : Option Tmp) (K : St → Prop) : CallH Try.prog 28 [I .i64 2, I .i64 1, .l [.s [I .i64 0, I .i64 0], .s [I .i64 1, I .i64 0]]] pure σ dst (.mk : Hid K) = OrH ((pure || D.flat (.t [.l [], .l [I .i64 0], erD 0])) = true ∧ evK (σ.put dst (.d (.t [.l [], .l [I .i64 0], erD 0]))) (.mk : Hid K)) (.mk : Hid (CallH Try.prog 28 [I .i64 2, I .i64 1, .l [.s [I .i64 0, I .i64 0], .s [I .i64 1, I .i64 0]]] pure σ dst (.mk : Hid K))) := CallH.eq0 (mf2_spec ) pure σ dst K
theorem mf2_callQ  (pure : Bool) (C : V → Prop) : CallQ Try.prog 28 [I .i64 2, I .i64 1, .l [.s [I .i64 0, I .i64 0], .s [I .i64 1, I .i64 0]]] pure (.mk : Hid C) = OrH ((pure || D.flat (.t [.l [], .l [I .i64 0], erD 0])) = true ∧ evK (V.d (.t [.l [], .l [I .i64 0], erD 0])) (.mk : Hid C)) (.mk : Hid (CallQ Try.prog 28 [I .i64 2, I .i64 1, .l [.s [I .i64 0, I .i64 0], .s [I .i64 1, I .i64 0]]] pure (.mk : Hid C))) := CallQ.eq0 (mf2_spec ) pure C
theorem mf3_spec  : FnD Try.prog 44 [.l [I .i64 0], .l [I .i64 0]] (Bo true) := by
  have h := ints_spec [0] [0] (by decide)
  exact h
theorem mf3_call  (pure : Bool) (σ : St) (dst : Option Tmp) (K : St → Prop) : CallH Try.prog 44 [.l [I .i64 0], .l [I .i64 0]] pure σ dst (.mk : Hid K) = OrH ((pure || D.flat (Bo true)) = true ∧ evK (σ.put dst (.d (Bo true))) (.mk : Hid K)) (.mk : Hid (CallH Try.prog 44 [.l [I .i64 0], .l [I .i64 0]] pure σ dst (.mk : Hid K))) := CallH.eq0 (mf3_spec ) pure σ dst K
theorem mf3_callQ  (pure : Bool) (C : V → Prop) : CallQ Try.prog 44 [.l [I .i64 0], .l [I .i64 0]] pure (.mk : Hid C) = OrH ((pure || D.flat (Bo true)) = true ∧ evK (V.d (Bo true)) (.mk : Hid C)) (.mk : Hid (CallQ Try.prog 44 [.l [I .i64 0], .l [I .i64 0]] pure (.mk : Hid C))) := CallQ.eq0 (mf3_spec ) pure C
theorem mfact_spec  : FnD Try.prog 26 [] (Bo true) := by
  refine FnD.go Try.func26 rfl rfl Try.results26 Try.ntmps26 ?_
  simp (implicitDefEqProofs := false) (dsimp := false) only [↓aw_seq, ↓aw_reg, ↓Qseq_n, ↓ops_nil, ↓ops_cons, ↓eval_tmp, ↓eval_int, ↓eval_bool, ↓eval_func, ↓put_some, ↓dK_d, ↓op_move, ↓op_assign, ↓op_build, ↓op_call, isD_d, ↓fnK_f, ↓call_H, ↓callK_H, ↓allT_nil, ↓allT_cons, ↓allD_nil, ↓allD_cons, ↓td_d, ↓cells_c, ↓cells_s, ↓one_i, ↓bs_, ↓op_bs, ↓bsL_f, ↓stored_mk, ↓sl_nil, ↓sl_cons, ↓sT_assign, ↓sT_build, ↓sT_bs, ↓vsz_agg, ↓inO_2, ↓fm_nil, ↓fm_cons, ↓sl22, ↓ty35, ↓zb35, ↓bd35, List.getD_cons_zero, List.getD_cons_succ, List.set_cons_zero, List.set_cons_succ, List.cons_append, List.nil_append, List.append_nil, List.map_cons, List.map_nil, List.length_cons, List.length_nil, List.all_cons, List.all_nil, Bool.true_and, Bool.and_self, Bool.or_false, Nat.reduceAdd, Nat.reduceSub, Nat.reduceMul, Nat.zero_add, List.replicate, evK_go, reduceIte, Nat.reduceEqDiff, Nat.reduceLT, and_self, true_and, Int.zero_add]
  simp (implicitDefEqProofs := false) (dsimp := false) only [mf1_call, mf2_call, mf3_call, eval_nilI, ↓er_eql, ↓cdK_true, ↓gdK_t, ↓gval_mk, ↓gvL_zero, ↓gvL_succ, ↓nthK_H, ↓nthH_zero, ↓nthH_succ, ↓aw_seq, ↓aw_ret, ↓aw_reg, ↓Qseq_n, ↓Qret_r, ↓ops_nil, ↓ops_cons, ↓ops_guard, ↓eval_tmp, ↓eval_int, ↓eval_func, ↓put_some, ↓bK_b, ↓dK_d, ↓lenK_l, ↓tK_t, ↓binE_i, ↓bi_eql, ↓op_move, ↓op_assign, ↓op_pick, ↓op_bin, ↓op_extract, ↓op_len, ↓op_call, ↓orH_T, isD_d, ↓fnK_f, ↓call_H, ↓callK_H, ↓allT_nil, ↓allT_cons, ↓allD_nil, ↓allD_cons, ↓td_d, ↓ret_1, ↓st_tm, ↓cells_c, ↓one_i, ↓bs_, ↓op_bs, ↓bsL_f, ↓stored_mk, ↓sl_nil, ↓sl_cons, ↓sT_move, ↓sT_assign, ↓sT_pick, ↓sT_bin, ↓sT_bs, ↓sT_call, ↓vsz_int, ↓inO_1, ↓fm_nil, ↓fm_cons, ↓ty3, ↓zb3, ↓sl28, List.getD_cons_zero, List.getD_cons_succ, List.set_cons_zero, List.set_cons_succ, List.append_nil, List.map_cons, List.map_nil, List.length_cons, List.length_nil, List.all_cons, List.all_nil, Bool.and_true, Bool.true_and, Bool.and_self, Bool.true_or, Bool.or_false, Nat.reduceAdd, Nat.reduceSub, Nat.reduceMul, Nat.zero_add, evK_go, reduceIte, decide_true, Nat.reduceEqDiff, Nat.reduceLT, and_self, true_and, and_true, Int.zero_add, Int.cast_ofNat_Int]
  exact ⟨⟨rfl, by decide⟩, OrH.l (OrH.l (OrH.l (OrH.l (by decide))))⟩
theorem mfact_call  (pure : Bool) (σ : St) (dst : Option Tmp) (K : St → Prop) : CallH Try.prog 26 [] pure σ dst (.mk : Hid K) = OrH ((pure || D.flat (Bo true)) = true ∧ evK (σ.put dst (.d (Bo true))) (.mk : Hid K)) (.mk : Hid (CallH Try.prog 26 [] pure σ dst (.mk : Hid K))) := CallH.eq0 (mfact_spec ) pure σ dst K
theorem mfact_callQ  (pure : Bool) (C : V → Prop) : CallQ Try.prog 26 [] pure (.mk : Hid C) = OrH ((pure || D.flat (Bo true)) = true ∧ evK (V.d (Bo true)) (.mk : Hid C)) (.mk : Hid (CallQ Try.prog 26 [] pure (.mk : Hid C))) := CallQ.eq0 (mfact_spec ) pure C
end Go.Proofs
