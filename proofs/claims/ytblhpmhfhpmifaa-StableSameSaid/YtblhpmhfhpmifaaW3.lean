/- Part W 3 of what the proof of StableSame stands on: what the functions of the program compute. -/
import Derived.Test.YtblhpmhfhpmifaaW2
import Derived.Test.YtblhpmhfhpmifaaRows
import Derived.ProofKit
import Derived.JoinedCond
import Derived.SizedLaws
import Derived.ReadAgain
import Derived.Deep.SlicePairs
import Derived.Deep.Matrix
import Derived.Lib.SmallJoins
import Derived.ChangeSlices
set_option linter.unusedVariables false
set_option linter.unusedSimpArgs false
namespace Go.Proofs
open Go.Aw
set_option linter.unusedSimpArgs false
set_option maxRecDepth 10000
set_option maxHeartbeats 2000000
theorem pts_all : ∀ n, n < 7 → pts (2 ^ n - 1) = List.range n := by decide +kernel
theorem GI.full {n : Nat} {L R : List (List Nat)} {g : GS} (h : GI n L R g) (hf : g.free = []) : ∀ j, j < n → ∃ i, i < n ∧ g.has.getD j default = (i : Int) := by
  have hr : ∀ i, i < n → ∃ j, j < n ∧ g.has.getD j default = (i : Int) := fun i hi => (h.cov i hi).resolve_left (by rw [hf]; simp)
  have hp0 : Pairs n fun i => (if hi : i < n then Classical.choose (hr i hi) else 0) := by
    refine ⟨fun i hi => ?_, fun i k hi hk e => ?_⟩
    · simp (implicitDefEqProofs := false) (dsimp := false) only [dif_pos hi]; exact (Classical.choose_spec (hr i hi)).1
    · simp (implicitDefEqProofs := false) (dsimp := false) only [dif_pos hi, dif_pos hk] at e
      have h1 := (Classical.choose_spec (hr i hi)).2
      have h2 := (Classical.choose_spec (hr k hk)).2
      rw [e] at h1
      rw [h1] at h2
      exact Int.ofNat_inj.1 h2
  intro j hj
  obtain ⟨i, hi, e⟩ := hp0.sur hj
  simp (implicitDefEqProofs := false) (dsimp := false) only [dif_pos hi] at e
  exact ⟨i, hi, by rw [← e]; exact (Classical.choose_spec (hr i hi)).2⟩
structure PI where
  m : Nat
  pre : List Nat
  g : GS
def outK (has : List Int) (n k : Nat) : List Nat := (List.range k).foldl (fun o j => o.set (has.getD j default).toNat j) (List.replicate n 0)
theorem outK_len (has : List Int) (n k : Nat) : (outK has n k).length = n := by
  induction k with
  | zero => simp [outK]
  | succ k ih => unfold outK at ih ⊢; rw [List.range_succ, List.foldl_append, List.foldl_cons, List.foldl_nil, List.length_set]; exact ih
theorem outK_succ (has : List Int) (n k : Nat) : outK has n (k + 1) = (outK has n k).set (has.getD k default).toNat k := by
  unfold outK; rw [List.range_succ, List.foldl_append]; rfl
def pairsR (L R : List (List Int)) : List Nat := if stE L R = 0 then gale L.length (toN L) (toN R) else []
theorem spairs_spec (L R : List (List Int)) (hpre : (L.length < 2 ^ 62 ∧ ∀ x ∈ L, x.length < 2 ^ 62) ∧ R.length < 2 ^ 62 ∧ ∀ x ∈ R, x.length < 2 ^ 62) : FnD Try.prog 46 [.l (L.map liD), .l (R.map liD)] (.t [.l ((pairsR L R).map nD), erD (stE L R)]) := by
  refine FnD.go Try.func46 rfl rfl Try.results46 Try.ntmps46 ?_
  simp (implicitDefEqProofs := false) (dsimp := false) only [↓aw_seq, ↓aw_reg, ↓Qseq_n, ↓ops_nil, ↓ops_cons, ↓eval_tmp, ↓eval_nil, ↓eval_func, ↓put_some, ↓op_move, ↓op_assign, ↓op_call, isD_d, ↓fnK_f, ↓call_H, ↓callK_H, ↓allT_nil, ↓allT_cons, ↓td_d, List.getD_cons_zero, List.getD_cons_succ, List.set_cons_zero, List.set_cons_succ, List.cons_append, List.nil_append, List.append_nil, List.map_cons, List.map_nil, List.length_cons, List.length_nil, List.all_cons, List.all_nil, Bool.and_self, Nat.reduceAdd, Nat.reduceSub, Nat.reduceMul, Nat.zero_add, List.replicate, evK_go, reduceIte, Nat.reduceEqDiff, Nat.reduceLT, and_self, Int.zero_add]
  simp (implicitDefEqProofs := false) (dsimp := false) only [scheck_call, hpre, eval_nilI, ↓er_neq, er_flat, ↓cdK_not, ↓aw_cond, ↓aw_seq, ↓aw_reg, ↓Qseq_n, ↓ops_nil, ↓ops_cons, ↓eval_tmp, ↓put_some, ↓bK_b, ↓op_move, ↓op_assign, ↓op_bin, List.getD_cons_zero, List.getD_cons_succ, List.set_cons_zero, List.set_cons_succ, Bool.true_and, Bool.or_true, Nat.reduceAdd, Nat.reduceSub, Nat.reduceMul, evK_go, reduceIte, Nat.reduceEqDiff, Nat.reduceLT, true_and]
  refine OrH.l (OrH.l ⟨⟨hpre.1.2, hpre.2.2⟩, ?_⟩)
  refine cdK_dec (fun hc => ?_) (fun hc => ?_)
  rotate_left
  · have e : pairsR L R = [] := if_neg hc
    simp (implicitDefEqProofs := false) (dsimp := false) only [e, ↓aw_seq, ↓aw_ret, ↓aw_reg, ↓Qseq_n, ↓Qseq_r, ↓Qret_r, ↓ops_nil, ↓ops_cons, ↓eval_tmp, ↓eval_nil, ↓put_some, ↓op_move, ↓op_assign, ↓td_d, ↓td_nl, ↓ret_2, List.getD_cons_zero, List.getD_cons_succ, List.set_cons_zero, List.set_cons_succ, List.map_nil, Nat.reduceAdd, Nat.reduceSub, Nat.reduceMul, evK_go, reduceIte, Nat.reduceEqDiff, Nat.reduceLT]
  have e1 : pairsR L R = gale L.length (toN L) (toN R) := if_pos hc
  have ok := st_ok hc
  rw [ok.dL, ok.dR, hc, e1]
  have hA := ok.pL
  have hB := ok.pR
  have hn6 := ok.hi
  have hAl := hA.len
  have hBl := hB.len
  clear ok hpre e1 hc
  generalize toN L = A at *
  generalize toN R = B at *
  generalize L.length = n at *
  simp (implicitDefEqProofs := false) (dsimp := false) only [hAl, ↓optK_some, ↓rwK_mk_, ↓aw_seq, ↓aw_block, ↓aw_skip, ↓aw_loop, ↓aw_reg, ↓aw_draw, ↓Qseq_n, ↓ops_nil, ↓ops_cons, ↓eval_tmp, ↓eval_int, ↓put_some, ↓iK_i, ↓dK_d, ↓lenK_l, ↓lenK_o, ↓ev_move, ↓op_move, ↓op_assign, ↓op_len, ↓op_make, ↓draw_H, ↓h_cons, ↓ldH_t, ↓ldH_n, ↓q_move, ↓il_move, ↓il_make, ↓addRow_mk, ↓st_rw, ↓cells_c, ↓one_i, constV_i, ↓mk_, ↓vsz_int, ↓ty3, ↓zb3, ↓sl28, ↓sl44, List.getD_cons_zero, List.getD_cons_succ, List.set_cons_zero, List.set_cons_succ, List.cons_append, List.nil_append, List.length_cons, List.length_nil, List.length_map, List.all_cons, List.all_nil, Bool.and_true, Bool.true_and, Bool.and_self, Nat.reduceAdd, Nat.reduceSub, Nat.reduceMul, Nat.zero_add, Int.toNat_natCast, evK_go, reduceIte, decide_true, Bool.not_true, Nat.reduceEqDiff, Nat.reduceLT, and_self, true_and, and_true, Int.zero_add, Int.natCast_nonneg]
  refine OrH.r (draw3 (S3 A B n) follows_mixed (by kernel_rfl) (by rfl) ?_ ?_ (fun c2 c3 h2 h3 => mk1 A B hn6 h2 h3 _ _) ?_ (fun c1 c3 t h1 h3 ht => mk2 A B hn6 h1 h3 ht _ _) ?_ (fun c1 c2 t h1 h2 ht => mk3 A B hn6 h1 h2 ht _ _) ?_ ?_ ?_ ?_)
  · refine Wkn.of [] [none, none, none] ?_
    simp (implicitDefEqProofs := false) (dsimp := false) only [tvA0, tvB0, tvC0, rv0, slots, ↓row_xs, List.set_cons_zero, List.set_cons_succ, Bool.and_self, Nat.reduceAdd, Nat.reduceSub, Nat.reduceMul, List.replicate, evK_go, reduceIte, Nat.reduceEqDiff, Nat.reduceLT, and_self, List.foldl_cons, List.foldl_nil, slots, wkL_nil, wkL_cons, wkB_nil, wkR_nil, wkR_new, wkV_j, wkV_d, frz_d, reduceCtorEq]
  · intro c2 c3
    simp (implicitDefEqProofs := false) (dsimp := false) only [S3, tvA0, tvA1, tvB0, tvB1, tvC0, rv0, rv1, slots, ↓ops_nil, ↓ops_cons, ↓eval_tmp, ↓put_some, ↓op_move, List.getD_cons_zero, List.getD_cons_succ, List.set_cons_zero, List.set_cons_succ, Nat.reduceAdd, Nat.reduceSub, Nat.reduceMul, List.replicate, evK_go, reduceIte, Nat.reduceEqDiff, Nat.reduceLT, List.foldl_cons, List.foldl_nil]
    exact Wkn.refl _
  · intro c1 c3 t
    simp (implicitDefEqProofs := false) (dsimp := false) only [S3, tvA0, tvA1, tvB0, tvB1, rv0, rv1, slots, ↓ops_nil, ↓ops_cons, ↓eval_tmp, ↓put_some, ↓op_move, List.getD_cons_zero, List.getD_cons_succ, List.set_cons_zero, List.set_cons_succ, Nat.reduceAdd, Nat.reduceSub, Nat.reduceMul, List.replicate, evK_go, reduceIte, Nat.reduceEqDiff, Nat.reduceLT, List.foldl_cons, List.foldl_nil]
    exact Wkn.refl _
  · intro c1 c2 t
    simp (implicitDefEqProofs := false) (dsimp := false) only [S3, tvA0, tvA1, tvB0, tvB1, rv0, rv1, slots, ↓ops_nil, ↓ops_cons, ↓eval_tmp, ↓put_some, ↓op_move, List.getD_cons_zero, List.getD_cons_succ, List.set_cons_zero, List.set_cons_succ, Nat.reduceAdd, Nat.reduceSub, Nat.reduceMul, List.replicate, evK_go, reduceIte, Nat.reduceEqDiff, Nat.reduceLT, List.foldl_cons, List.foldl_nil]
    exact Wkn.refl _
  · intro c2 c3
    simp (implicitDefEqProofs := false) (dsimp := false) only [S3, tvA0, tvA1, tvA2, tvB0, tvB1, tvB2, tvC0, tvC1, rv2, slots, ↓ops_nil, ↓ops_cons, ↓eval_tmp, ↓put_some, ↓op_assign, List.getD_cons_zero, List.getD_cons_succ, List.set_cons_zero, List.set_cons_succ, Nat.reduceAdd, Nat.reduceSub, Nat.reduceMul, List.replicate, evK_go, reduceIte, Nat.reduceEqDiff, Nat.reduceLT, List.foldl_cons, List.foldl_nil]
    exact Wkn.refl _
  · intro c3
    simp (implicitDefEqProofs := false) (dsimp := false) only [S3, tvA1, tvA2, tvB1, tvB2, tvC1, tvC2, rv2, slots, ↓ops_nil, ↓ops_cons, ↓eval_tmp, ↓put_some, ↓op_assign, List.getD_cons_zero, List.getD_cons_succ, List.set_cons_zero, List.set_cons_succ, Nat.reduceAdd, Nat.reduceSub, Nat.reduceMul, List.replicate, evK_go, reduceIte, Nat.reduceEqDiff, Nat.reduceLT, List.foldl_cons, List.foldl_nil]
    exact Wkn.refl _
  · simp (implicitDefEqProofs := false) (dsimp := false) only [S3, tvA2, tvA3, tvB2, tvB3, tvC2, tvC3, rv2, slots, ↓ops_nil, ↓ops_cons, ↓eval_tmp, ↓put_some, ↓op_assign, List.getD_cons_zero, List.getD_cons_succ, List.set_cons_zero, List.set_cons_succ, Nat.reduceAdd, Nat.reduceSub, Nat.reduceMul, List.replicate, evK_go, reduceIte, Nat.reduceEqDiff, Nat.reduceLT, List.foldl_cons, List.foldl_nil]
    exact Wkn.refl _
  simp (implicitDefEqProofs := false) (dsimp := false) only [S3, tvA2, tvA3, tvB2, tvB3, tvC3, rv2, slots, ↓optK_some, ↓rwK_mk_, ↓aw_seq, ↓aw_block, ↓aw_loop, ↓aw_reg, ↓Qseq_n, ↓ops_nil, ↓ops_cons, ↓eval_tmp, ↓eval_int, ↓put_some, ↓lenK_o, ↓op_move, ↓op_len, ↓sl28, List.getD_cons_zero, List.getD_cons_succ, List.set_cons_zero, List.set_cons_succ, Nat.reduceAdd, Nat.reduceSub, Nat.reduceMul, List.replicate, evK_go, reduceIte, Nat.reduceEqDiff, Nat.reduceLT, List.foldl_cons, List.foldl_nil]
  refine loopW (fun k : Nat => { tm := slots 109 [(0, .d (.l (A.map lnR))), (1, .d (.l (B.map lnR))), (7, .d (I .i64 (n : Int))), (8, .o 0 0 n), (9, .o 1 0 n), (10, .o 2 0 n), (33, .d (I .i64 (n : Int))), (34, .d (I .i64 k))], bx := [], rw := [some ⟨1, (List.replicate n 0).map nD⟩, some ⟨1, (List.replicate n 0).map nD⟩, some ⟨1, (negK n k).map (I .i64)⟩] })
    (fun k => k ≤ n) (fun k => n - k) 0 (by simp) ?_ ?_
  · refine Wkn.of [] [some 0, some 1, some 2] ?_
    simp (implicitDefEqProofs := false) (dsimp := false) only [negK_zero, List.map_replicate, nD, List.getD_cons_zero, List.getD_cons_succ, List.set_cons_zero, List.set_cons_succ, Bool.and_self, Nat.reduceAdd, Nat.reduceSub, Nat.reduceMul, List.replicate, evK_go, reduceIte, Nat.reduceEqDiff, Nat.reduceLT, and_self, List.foldl_cons, List.foldl_nil, Int.cast_ofNat_Int, slots, wkL_nil, wkL_cons, wkB_nil, wkR_nil, wkR_some, wkV_j, wkV_d, wkV_o, frz_d, oK_zs, oK_s, reduceCtorEq]
  · intro k hk
    have hnl := negK_len hk
    simp (implicitDefEqProofs := false) (dsimp := false) only [slots, ↓aw_cond, ↓aw_seq, ↓aw_reg, ↓Qseq_n, ↓ops_nil, ↓ops_cons, ↓eval_tmp, ↓put_some, ↓bK_b, ↓binE_i, ↓bi_lss, ↓op_bin, List.getD_cons_zero, List.getD_cons_succ, List.set_cons_zero, List.set_cons_succ, Nat.reduceAdd, Nat.reduceSub, Nat.reduceMul, List.replicate, evK_go, reduceIte, Nat.reduceEqDiff, Nat.reduceLT, List.foldl_cons, List.foldl_nil, Int.ofNat_lt]
    refine cdK_dec (fun h => ?_) (fun h => ?_)
    · have hns := negK_set h
      simp (implicitDefEqProofs := false) (dsimp := false) only [h, ↓optK_some, ↓rwK_mk_, ↓aw_seq, ↓aw_block, ↓aw_skip, ↓aw_reg, ↓Qseq_n, ↓Qblk_n, ↓ops_nil, ↓ops_cons, ↓eval_tmp, ↓eval_int, ↓put_some, ↓put_none, ↓iK_i, ↓dK_d, ↓binE_i, ↓bi_add, ↓in_i64, ↓iaK_o, ↓op_move, ↓op_assign, ↓op_bin, ↓op_ia, ↓op_store, ↓setRow_mk, ↓row_sz, ↓row_xs, ↓cells_c, ↓one_i, ↓st_e, ↓ty3, ↓sl28, List.getD_cons_zero, List.getD_cons_succ, List.set_cons_zero, List.set_cons_succ, List.length_cons, List.length_nil, List.all_cons, List.all_nil, Bool.true_and, Bool.and_self, Nat.reduceAdd, Nat.reduceSub, Nat.reduceMul, Nat.zero_add, Int.toNat_natCast, evK_go, reduceIte, decide_true, Nat.reduceEqDiff, Nat.reduceLT, and_self, true_and, Int.zero_add, Int.ofNat_lt, Int.natCast_nonneg]
      refine ⟨by omega, k + 1, by omega, by omega, ?_⟩
      refine Wkn.of [] [some 0, some 1, some 2] ?_
      simp (implicitDefEqProofs := false) (dsimp := false) only [← hns, List.map_set, List.getD_cons_zero, List.getD_cons_succ, List.set_cons_zero, List.set_cons_succ, Bool.and_self, Nat.reduceAdd, Nat.reduceSub, Nat.reduceMul, List.replicate, evK_go, reduceIte, Nat.reduceEqDiff, Nat.reduceLT, and_self, List.foldl_cons, List.foldl_nil, Int.cast_ofNat_Int, Int.natCast_add, slots, wkL_nil, wkL_cons, wkB_nil, wkR_nil, wkR_some, wkV_j, wkV_d, wkV_o, frz_d, oK_zs, oK_s, reduceCtorEq]
    · obtain rfl : k = n := by omega
      have hk64 : k < 64 := by omega
      have hkp : 2 ^ k - 1 < 2 ^ 64 := by
        have := Nat.pow_le_pow_right (n := 2) (by omega) (show k ≤ 6 by omega)
        omega
      have hpa : ptsI (2 ^ k - 1) = (List.range k).map Int.ofNat := by unfold ptsI; rw [pts_all k (by omega)]
      simp (implicitDefEqProofs := false) (dsimp := false) only [below_call, list_call, hk64, hkp, hpa, negK_all, rflat_I, ↓aw_seq, ↓aw_block, ↓aw_exit, ↓aw_loop, ↓aw_reg, ↓Qseq_n, ↓Qseq_x, ↓Qblk_x, ↓ops_nil, ↓ops_cons, ↓eval_tmp, ↓eval_func, ↓put_some, ↓op_move, ↓op_assign, ↓op_call, isD_d, ↓fnK_f, ↓call_H, ↓callK_H, ↓allT_nil, ↓allT_cons, ↓td_d, ↓addRow_mk, ↓st_rw, List.getD_cons_zero, List.getD_cons_succ, List.set_cons_zero, List.set_cons_succ, List.cons_append, List.nil_append, List.append_nil, List.length_cons, List.length_nil, List.length_map, List.all_cons, List.all_nil, Bool.true_and, Bool.and_self, Bool.or_true, Bool.true_or, Nat.reduceAdd, Nat.reduceSub, Nat.reduceMul, Nat.zero_add, evK_go, reduceIte, decide_false, Nat.reduceEqDiff, Nat.reduceLT, and_self, true_and, Nat.lt_irrefl, Int.zero_add]
      (repeat refine OrH.l ?_)
      refine loopW (fun x : PI => { tm := slots 109 [(0, .d (.l (A.map lnR))), (1, .d (.l (B.map lnR))), (8, .o 0 0 k), (9, .o 1 0 k), (10, .o 2 0 k), (12, .o 3 x.pre.length x.g.free.length)], bx := [], rw := [some ⟨1, (List.replicate k 0).map nD⟩, some ⟨1, x.g.nx.map nD⟩, some ⟨1, x.g.has.map (I .i64)⟩, some ⟨1, (x.pre ++ x.g.free).map nD⟩] })
        (fun x => GI k A B x.g ∧ k * k ≤ asked x.g + x.m ∧ gRun A B x.m x.g = gRun A B (k * k) (gStart k)) (fun x => x.m) ⟨k * k, [], gStart k⟩ ⟨GI.start k A B, by show k * k ≤ asked (gStart k) + k * k; omega, rfl⟩ ?_ ?_
      · refine Wkn.of [] [some 0, some 1, some 2, some 3] ?_
        simp (implicitDefEqProofs := false) (dsimp := false) only [gStart, nDI, List.nil_append, List.length_nil, List.getD_cons_zero, List.getD_cons_succ, List.set_cons_zero, List.set_cons_succ, List.nil_append, List.length_nil, Bool.and_self, Nat.reduceAdd, Nat.reduceSub, Nat.reduceMul, List.replicate, evK_go, reduceIte, Nat.reduceEqDiff, Nat.reduceLT, and_self, List.foldl_cons, List.foldl_nil, slots, wkL_nil, wkL_cons, wkB_nil, wkR_nil, wkR_some, wkV_j, wkV_d, wkV_o, frz_d, oK_zs, oK_s, reduceCtorEq]
      · rintro ⟨m, pre, g⟩ ⟨hI, hm, hrun⟩
        simp only at hI hm hrun
        simp (implicitDefEqProofs := false) (dsimp := false) only [slots, ↓optK_some, ↓rwK_mk_, ↓aw_cond, ↓aw_seq, ↓aw_reg, ↓Qseq_n, ↓ops_nil, ↓ops_cons, ↓eval_tmp, ↓eval_int, ↓put_some, ↓bK_b, ↓lenK_o, ↓binE_i, ↓bi_gtr, ↓op_move, ↓op_bin, ↓op_len, ↓sl28, List.getD_cons_zero, List.getD_cons_succ, List.set_cons_zero, List.set_cons_succ, Nat.reduceAdd, Nat.reduceSub, Nat.reduceMul, List.replicate, evK_go, reduceIte, Nat.reduceEqDiff, Nat.reduceLT, List.foldl_cons, List.foldl_nil]
        refine cdK_dec (fun h1 => ?_) (fun h1 => ?_)
        · have hne : g.free ≠ [] := fun e => by rw [e] at h1; simp at h1
          have hstep := hI.step hA hB
          have hask := gStep_asked hI hne
          have hlt := hI.asked_lt hA hne
          obtain ⟨i, rest, e⟩ := List.exists_cons_of_ne_nil hne
          have hi : i ∈ g.free := by rw [e]; simp
          have hin := hI.freeLt i hi
          have hnx := hI.nx_lt hA hi
          have hnl := hI.ln
          have hhl := hI.lh
          cases m with
          | zero => omega
          | succ m =>
          have hrn : gRun A B (m + 1) g = gRun A B m (gStep A B g) := if_neg hne
          have hel : (pre ++ g.free).getD pre.length default = i := by
            rw [List.getD_eq_getElem?_getD, List.getElem?_append_right (Nat.le_refl _), Nat.sub_self, e]; rfl
          have hell : pre.length < (pre ++ g.free).length := by rw [List.length_append, e]; simp
          have hfl : 0 < g.free.length := by rw [e]; simp
          have hiA : i < A.length := by omega
          obtain ⟨hx1, hx2, hx3⟩ := hA.row hin
          have hj : gJ A g i < k := hA.get_lt hin hnx
          have hgs : gStep A B g = (if g.has.getD (gJ A g i) default < 0 then ⟨rest, g.nx.set i (g.nx.getD i default + 1), g.has.set (gJ A g i) i⟩
            else if (B.getD (gJ A g i) default).idxOf i < (B.getD (gJ A g i) default).idxOf (g.has.getD (gJ A g i) default).toNat then ⟨(g.has.getD (gJ A g i) default).toNat :: rest, g.nx.set i (g.nx.getD i default + 1), g.has.set (gJ A g i) i⟩
            else ⟨i :: rest, g.nx.set i (g.nx.getD i default + 1), g.has⟩) := by
            unfold gStep
            rw [e]
          have hjd : (A.getD i default).getD (g.nx.getD i default) default = gJ A g i := rfl
          have hnxi : i < g.nx.length := by omega
          have hnxx : g.nx.getD i default < (A.getD i default).length := by omega
          generalize hjn : gJ A g i = j at hj hgs hjd
          have hjh : j < g.has.length := by omega
          simp (implicitDefEqProofs := false) (dsimp := false) only [hel, hell, hiA, hnxx, hjd, hnl, hhl, hin, hj, lnR, nD, ↓optK_some, ↓rwK_mk_, ↓atK_H, ↓atH_map, ↓nthK_H, ↓nthH_zero, ↓aw_cond, ↓aw_seq, ↓aw_block, ↓aw_skip, ↓aw_reg, ↓aw_draw, ↓Qseq_n, ↓ops_nil, ↓ops_cons, ↓eval_tmp, ↓eval_int, ↓put_some, ↓put_none, ↓bK_b, ↓iK_i, ↓dK_d, ↓ev_move, ↓ev_assign, ↓ev_load, ↓ev_ia, ↓binE_i, ↓bi_add, ↓bi_lss, ↓in_i64, ↓ldK_q, ↓ldK_e, ↓iaK_l, ↓iaK_o, ↓op_move, ↓op_assign, ↓op_load, ↓op_bin, ↓op_ia, ↓op_store, ↓draw_H, ↓h_nil, ↓h_cons, ↓ldH_n, ↓q_move, ↓q_assign, ↓q_load, ↓q_ia, ↓il_move, ↓il_assign, ↓il_load, ↓il_ia, ↓setRow_mk, ↓row_sz, ↓row_xs, ↓cells_c, ↓cells_l, ↓one_i, ↓st_e, ↓hd_cons, ↓ty3, ↓ty28, ↓sl28, ↓sl44, List.getD_cons_zero, List.getD_cons_succ, List.set_cons_zero, List.set_cons_succ, List.length_cons, List.length_nil, List.all_cons, List.all_nil, Bool.true_and, Bool.and_self, Nat.reduceAdd, Nat.reduceSub, Nat.reduceMul, Nat.zero_add, Nat.add_zero, Int.toNat_natCast, Int.toNat_zero, evK_go, reduceIte, Nat.reduceEqDiff, Nat.reduceLT, and_self, true_and, Int.zero_add, Int.ofNat_lt, Int.natCast_nonneg]
          have hnxm : g.nx.map nD = g.nx.map nD := rfl
          have hvb : -9223372036854775808 ≤ (g.nx.getD i default : Int) + 1 ∧ (g.nx.getD i default : Int) + 1 ≤ 9223372036854775807 := by omega
          have hjB : j < B.length := by omega
          have hBj := (hB.row hj).1
          have hm2 : k * k ≤ asked (gStep A B g) + m := by rw [hask]; omega
          refine ⟨⟨by omega, by omega⟩, OrH.l ⟨DrawH.of follows_mixed (by kernel_rfl), hvb, cdK_dec (fun h2 => ?_) (fun h2 => ?_)⟩⟩
          · rw [if_pos h2] at hgs
            simp (implicitDefEqProofs := false) (dsimp := false) only [hj, ↓optK_some, ↓rwK_mk_, ↓aw_reg, ↓Qseq_n, ↓Qblk_n, ↓ops_nil, ↓ops_cons, ↓eval_tmp, ↓eval_int, ↓put_some, ↓put_none, ↓iK_i, ↓dK_d, ↓optI_none, ↓optI_some, ↓iaK_o, ↓sliK_o, ↓op_move, ↓op_assign, ↓op_ia, ↓op_slice, ↓op_store, ↓setRow_mk, ↓row_sz, ↓row_xs, ↓cells_c, ↓one_i, ↓st_e, ↓ty3, ↓sl28, List.getD_cons_zero, List.getD_cons_succ, List.set_cons_zero, List.set_cons_succ, List.length_cons, List.length_nil, List.all_cons, List.all_nil, Bool.true_and, Bool.and_self, Nat.reduceAdd, Nat.reduceSub, Nat.reduceMul, Nat.zero_add, Int.toNat_natCast, Int.toNat_one, evK_go, reduceIte, Nat.reduceEqDiff, Nat.reduceLT, and_self, true_and, Option.getD_none, Option.getD_some, Int.zero_add, Int.ofNat_lt, Int.ofNat_le, Int.natCast_nonneg]
            have e3 : ((g.free.length : Int) - 1).toNat = rest.length := by rw [e]; simp
            have e4 : List.map nD (pre ++ g.free) = List.map nD ((pre ++ [i]) ++ rest) := by rw [e]; simp
            refine ⟨⟨by omega, by omega, by omega⟩, ⟨m, pre ++ [i], gStep A B g⟩, ⟨hstep, hm2, by rw [← hrun, hrn]⟩, Nat.lt_succ_self m, ?_⟩
            refine Wkn.of [] [some 0, some 1, some 2, some 3] ?_
            rw [hgs]
            simp (implicitDefEqProofs := false) (dsimp := false) only [e3, e4, List.map_set, List.length_append, List.length_cons, List.length_nil, nD, List.getD_cons_zero, List.getD_cons_succ, List.set_cons_zero, List.set_cons_succ, List.length_cons, List.length_nil, Bool.and_self, Nat.reduceAdd, Nat.reduceSub, Nat.reduceMul, Nat.zero_add, List.replicate, evK_go, reduceIte, Nat.reduceEqDiff, Nat.reduceLT, and_self, Int.zero_add, List.foldl_cons, List.foldl_nil, Int.cast_ofNat_Int, Int.natCast_add, slots, wkL_nil, wkL_cons, wkB_nil, wkR_nil, wkR_some, wkV_j, wkV_d, wkV_o, frz_d, oK_zs, oK_s, reduceCtorEq]
          · rw [if_neg h2] at hgs
            obtain ⟨w, hwn, hwe⟩ : ∃ w, w < k ∧ g.has.getD j default = (w : Int) := by
              rcases hI.hasR j hj with h3 | ⟨w, h3, h4, _⟩
              · omega
              · exact ⟨w, h3, h4⟩
            have hmi := hB.mem hj hin
            have hmw := hB.mem hj hwn
            have hB62 : (B.getD j default).length < 2 ^ 62 := by omega
            rw [hwe, Int.toNat_natCast] at hgs
            simp (implicitDefEqProofs := false) (dsimp := false) only [hwe, hjB, lnR, indexN_callQ, hmi, hmw, hB62, ↓atK_H, ↓atH_map, ↓aw_cond, ↓aw_seq, ↓aw_draw, ↓Qseq_n, ↓eval_tmp, ↓eval_func, ↓put_some, ↓bK_b, ↓iK_i, ↓ev_move, ↓ev_assign, ↓ev_load, ↓ev_bin, ↓ev_ia, ↓binE_i, ↓bi_lss, ↓ldK_q, ↓iaK_l, isD_d, ↓fnK_f, ↓callKQ_H, ↓allT_nil, ↓allT_cons, ↓td_d, ↓draw_H, ↓h_nil, ↓h_cons, ↓ldH_n, ↓q_call, ↓q_move, ↓q_assign, ↓q_load, ↓q_bin, ↓q_ia, ↓il_move, ↓il_assign, ↓il_load, ↓il_bin, ↓il_ia, ↓il_call, ↓row_sz, ↓row_xs, ↓cells_l, ↓hd_cons, ↓ty28, ↓sl44, List.getD_cons_zero, List.getD_cons_succ, List.set_cons_zero, List.set_cons_succ, List.append_nil, List.length_cons, List.length_nil, List.all_cons, List.all_nil, Bool.true_and, Bool.and_self, Bool.true_or, Nat.reduceAdd, Nat.reduceSub, Nat.reduceMul, Nat.zero_add, Int.toNat_natCast, evK_go, reduceIte, Nat.reduceEqDiff, Nat.reduceLT, and_self, true_and, Int.zero_add, Int.ofNat_lt, Int.natCast_nonneg]
            refine OrH.l ⟨DrawH.of follows_mixed (by kernel_rfl), ?_⟩
            (repeat refine OrH.l ?_)
            refine cdK_dec (fun h4 => ?_) (fun h4 => ?_)
            · rw [if_pos (by omega)] at hgs
              simp (implicitDefEqProofs := false) (dsimp := false) only [hj, ↓optK_some, ↓rwK_mk_, ↓aw_reg, ↓Qseq_n, ↓Qblk_n, ↓ops_nil, ↓ops_cons, ↓eval_tmp, ↓eval_int, ↓put_some, ↓put_none, ↓iK_i, ↓dK_d, ↓iaK_o, ↓op_move, ↓op_ia, ↓op_store, ↓setRow_mk, ↓row_sz, ↓row_xs, ↓cells_c, ↓one_i, ↓st_e, ↓ty3, ↓sl28, List.getD_cons_zero, List.getD_cons_succ, List.set_cons_zero, List.set_cons_succ, List.length_cons, List.length_nil, List.all_cons, List.all_nil, Bool.true_and, Bool.and_self, Nat.reduceAdd, Nat.reduceSub, Nat.reduceMul, Nat.zero_add, Nat.add_zero, Int.toNat_natCast, Int.toNat_zero, evK_go, reduceIte, Nat.reduceEqDiff, Nat.reduceLT, and_self, true_and, Int.zero_add, Int.ofNat_lt, Int.natCast_nonneg]
              have e4 : (List.map nD (pre ++ g.free)).set pre.length (D.c (Value.int IntKind.i64 (w : Int))) = List.map nD (pre ++ (w :: rest)) := by
                show (List.map nD (pre ++ g.free)).set pre.length (nD w) = _
                rw [← List.map_set, e, List.set_append, if_neg (by omega), Nat.sub_self]
                rfl
              have e5 : g.free.length = rest.length + 1 := by rw [e]; rfl
              refine ⟨⟨by omega, by omega⟩, ⟨m, pre, gStep A B g⟩, ⟨hstep, hm2, by rw [← hrun, hrn]⟩, Nat.lt_succ_self m, ?_⟩
              refine Wkn.of [] [some 0, some 1, some 2, some 3] ?_
              rw [hgs]
              simp (implicitDefEqProofs := false) (dsimp := false) only [e4, e5, List.map_set, List.length_cons, nD, List.getD_cons_zero, List.getD_cons_succ, List.set_cons_zero, List.set_cons_succ, List.length_cons, Bool.and_self, Nat.reduceAdd, Nat.reduceSub, Nat.reduceMul, List.replicate, evK_go, reduceIte, Nat.reduceEqDiff, Nat.reduceLT, and_self, List.foldl_cons, List.foldl_nil, Int.cast_ofNat_Int, Int.natCast_add, slots, wkL_nil, wkL_cons, wkB_nil, wkR_nil, wkR_some, wkV_j, wkV_d, wkV_o, frz_d, oK_zs, oK_s, reduceCtorEq]
            · rw [if_neg (by omega)] at hgs
              simp (implicitDefEqProofs := false) (dsimp := false) only [↓optK_some, ↓rwK_mk_, ↓aw_seq, ↓aw_block, ↓aw_exit, ↓aw_loop, ↓aw_reg, ↓Qseq_n, ↓Qseq_x, ↓Qblk_n, ↓Qblk_x, ↓ops_nil, ↓ops_cons, ↓eval_tmp, ↓eval_int, ↓put_some, ↓put_none, ↓iK_i, ↓dK_d, ↓lenK_o, ↓iaK_o, ↓op_move, ↓op_ia, ↓op_len, ↓op_store, ↓setRow_mk, ↓row_sz, ↓row_xs, ↓cells_c, ↓one_i, ↓st_e, ↓ty3, ↓sl28, List.getD_cons_zero, List.getD_cons_succ, List.set_cons_zero, List.set_cons_succ, List.length_cons, List.length_nil, List.all_cons, List.all_nil, Bool.true_and, Bool.and_self, Nat.reduceAdd, Nat.reduceSub, Nat.reduceMul, Nat.zero_add, Int.toNat_natCast, evK_go, reduceIte, Nat.reduceEqDiff, Nat.reduceLT, and_self, true_and, Int.zero_add, Int.ofNat_lt, Int.natCast_nonneg]
              refine ⟨⟨m, pre, gStep A B g⟩, ⟨hstep, hm2, by rw [← hrun, hrn]⟩, Nat.lt_succ_self m, ?_⟩
              refine Wkn.of [] [some 0, some 1, some 2, some 3] ?_
              rw [hgs, ← e]
              simp (implicitDefEqProofs := false) (dsimp := false) only [List.map_set, nD, List.getD_cons_zero, List.getD_cons_succ, List.set_cons_zero, List.set_cons_succ, Bool.and_self, Nat.reduceAdd, Nat.reduceSub, Nat.reduceMul, List.replicate, evK_go, reduceIte, Nat.reduceEqDiff, Nat.reduceLT, and_self, List.foldl_cons, List.foldl_nil, Int.cast_ofNat_Int, Int.natCast_add, slots, wkL_nil, wkL_cons, wkB_nil, wkR_nil, wkR_some, wkV_j, wkV_d, wkV_o, frz_d, oK_zs, oK_s, reduceCtorEq]
        · have hf : g.free = [] := List.eq_nil_of_length_eq_zero (by omega)
          have hq : gRun A B m g = g := by cases m with | zero => rfl | succ m => exact if_pos hf
          have hfull := hI.full hf
          have hhl := hI.lh
          have hout : gale k A B = outK g.has k k := by
            unfold gale outG outK
            rw [← hrun, hq, hhl]
          rw [hout]
          simp (implicitDefEqProofs := false) (dsimp := false) only [↓optK_some, ↓rwK_mk_, ↓aw_seq, ↓aw_block, ↓aw_exit, ↓aw_loop, ↓aw_reg, ↓Qseq_n, ↓Qseq_x, ↓Qblk_x, ↓ops_nil, ↓ops_cons, ↓eval_tmp, ↓eval_int, ↓put_some, ↓lenK_o, ↓op_move, ↓op_len, ↓sl28, List.getD_cons_zero, List.getD_cons_succ, List.set_cons_zero, List.set_cons_succ, Nat.reduceAdd, Nat.reduceSub, Nat.reduceMul, evK_go, reduceIte, Nat.reduceEqDiff, Nat.reduceLT]
          refine loopW (fun q : Nat => { tm := slots 109 [(8, .o 0 0 k), (96, .o 1 0 k), (97, .d (I .i64 (k : Int))), (98, .d (I .i64 q))], bx := [], rw := [some ⟨1, (outK g.has k q).map nD⟩, some ⟨1, g.has.map (I .i64)⟩] })
            (fun q => q ≤ k) (fun q => k - q) 0 (by simp) ?_ ?_
          · refine Wkn.of [] [some 0, some 2] ?_
            simp (implicitDefEqProofs := false) (dsimp := false) only [outK, List.range_zero, List.foldl_nil, List.getD_cons_zero, List.getD_cons_succ, List.set_cons_zero, List.set_cons_succ, Bool.and_self, Nat.reduceAdd, Nat.reduceSub, Nat.reduceMul, List.replicate, evK_go, reduceIte, Nat.reduceEqDiff, Nat.reduceLT, and_self, List.foldl_cons, List.foldl_nil, Int.cast_ofNat_Int, slots, wkL_nil, wkL_cons, wkB_nil, wkR_nil, wkR_some, wkV_j, wkV_d, wkV_o, frz_d, oK_zs, oK_s, reduceCtorEq]
          · intro q hq1
            have hol := outK_len g.has k q
            have hos := outK_succ g.has k q
            simp (implicitDefEqProofs := false) (dsimp := false) only [slots, ↓aw_cond, ↓aw_seq, ↓aw_reg, ↓Qseq_n, ↓ops_nil, ↓ops_cons, ↓eval_tmp, ↓put_some, ↓bK_b, ↓binE_i, ↓bi_lss, ↓op_bin, List.getD_cons_zero, List.getD_cons_succ, List.set_cons_zero, List.set_cons_succ, Nat.reduceAdd, Nat.reduceSub, Nat.reduceMul, List.replicate, evK_go, reduceIte, Nat.reduceEqDiff, Nat.reduceLT, List.foldl_cons, List.foldl_nil, Int.ofNat_lt]
            refine cdK_dec (fun h2 => ?_) (fun h2 => ?_)
            · obtain ⟨w, hwn, hwe⟩ := hfull q h2
              rw [hwe, Int.toNat_natCast] at hos
              have hqh : q < g.has.length := by omega
              simp (implicitDefEqProofs := false) (dsimp := false) only [h2, hhl, hwe, hwn, ↓optK_some, ↓rwK_mk_, ↓atK_H, ↓atH_map, ↓nthK_H, ↓nthH_zero, ↓aw_seq, ↓aw_block, ↓aw_skip, ↓aw_reg, ↓Qseq_n, ↓Qblk_n, ↓ops_nil, ↓ops_cons, ↓eval_tmp, ↓eval_int, ↓put_some, ↓put_none, ↓iK_i, ↓dK_d, ↓binE_i, ↓bi_add, ↓in_i64, ↓ldK_e, ↓iaK_o, ↓op_move, ↓op_assign, ↓op_load, ↓op_bin, ↓op_ia, ↓op_store, ↓setRow_mk, ↓row_sz, ↓row_xs, ↓cells_c, ↓one_i, ↓st_e, ↓ty3, ↓sl28, List.getD_cons_zero, List.getD_cons_succ, List.set_cons_zero, List.set_cons_succ, List.length_cons, List.length_nil, List.all_cons, List.all_nil, Bool.true_and, Bool.and_self, Nat.reduceAdd, Nat.reduceSub, Nat.reduceMul, Nat.zero_add, Int.toNat_natCast, evK_go, reduceIte, decide_true, Nat.reduceEqDiff, Nat.reduceLT, and_self, true_and, Int.zero_add, Int.ofNat_lt, Int.natCast_nonneg]
              refine ⟨by omega, q + 1, by omega, by omega, ?_⟩
              refine Wkn.of [] [some 0, some 1] ?_
              simp (implicitDefEqProofs := false) (dsimp := false) only [hos, List.map_set, nD, List.getD_cons_zero, List.getD_cons_succ, List.set_cons_zero, List.set_cons_succ, Bool.and_self, Nat.reduceAdd, Nat.reduceSub, Nat.reduceMul, List.replicate, evK_go, reduceIte, Nat.reduceEqDiff, Nat.reduceLT, and_self, List.foldl_cons, List.foldl_nil, Int.cast_ofNat_Int, Int.natCast_add, slots, wkL_nil, wkL_cons, wkB_nil, wkR_nil, wkR_some, wkV_j, wkV_d, wkV_o, frz_d, oK_zs, oK_s, reduceCtorEq]
            · obtain rfl : q = k := by omega
              have e6 : List.take q (List.map nD (outK g.has q q)) = List.map nD (outK g.has q q) := List.take_of_length_le (by rw [List.length_map]; omega)
              simp (implicitDefEqProofs := false) (dsimp := false) only [e6, eval_nilI, ↓optK_some, ↓rwK_mk_, ↓aw_seq, ↓aw_exit, ↓aw_ret, ↓aw_reg, ↓Qseq_n, ↓Qseq_x, ↓Qblk_x, ↓Qret_r, ↓ops_nil, ↓ops_cons, ↓eval_tmp, ↓put_some, ↓op_move, ↓op_assign, ↓td_d, ↓td_o, ↓ret_2, ↓row_xs, List.getD_cons_zero, List.getD_cons_succ, List.set_cons_zero, List.set_cons_succ, Nat.reduceAdd, Nat.reduceSub, Nat.reduceMul, evK_go, reduceIte, decide_false, Nat.reduceEqDiff, Nat.reduceLT, Nat.lt_irrefl, List.drop_zero]
              rfl
theorem spairs_call (L R : List (List Int)) (pure : Bool) (σ : St) (dst : Option Tmp) (K : St → Prop) : CallH Try.prog 46 [.l (L.map liD), .l (R.map liD)] pure σ dst (.mk : Hid K) = OrH (((L.length < 2 ^ 62 ∧ ∀ x ∈ L, x.length < 2 ^ 62) ∧ R.length < 2 ^ 62 ∧ ∀ x ∈ R, x.length < 2 ^ 62) ∧ (pure || D.flat (.t [.l ((pairsR L R).map nD), erD (stE L R)])) = true ∧ evK (σ.put dst (.d (.t [.l ((pairsR L R).map nD), erD (stE L R)]))) (.mk : Hid K)) (.mk : Hid (CallH Try.prog 46 [.l (L.map liD), .l (R.map liD)] pure σ dst (.mk : Hid K))) := CallH.eq (spairs_spec L R) pure σ dst K
theorem spairs_callQ (L R : List (List Int)) (pure : Bool) (C : V → Prop) : CallQ Try.prog 46 [.l (L.map liD), .l (R.map liD)] pure (.mk : Hid C) = OrH (((L.length < 2 ^ 62 ∧ ∀ x ∈ L, x.length < 2 ^ 62) ∧ R.length < 2 ^ 62 ∧ ∀ x ∈ R, x.length < 2 ^ 62) ∧ (pure || D.flat (.t [.l ((pairsR L R).map nD), erD (stE L R)])) = true ∧ evK (V.d (.t [.l ((pairsR L R).map nD), erD (stE L R)])) (.mk : Hid C)) (.mk : Hid (CallQ Try.prog 46 [.l (L.map liD), .l (R.map liD)] pure (.mk : Hid C))) := CallQ.eq (spairs_spec L R) pure C
end Go.Proofs

namespace Go.Proofs
open Go.Aw Go.ChangeShapes Go.WideShapes Go.ChangeAt Go.RowKit Go.Deep
set_option linter.unusedVariables false
set_option maxRecDepth 100000
theorem tkids : Kids Try.prog (· < Try.prog.types.size) := kids_rows (by kernel_rfl) (by kernel_rfl)
theorem tfull : ∀ t e, t < Try.prog.types.size → Try.prog.underlying t = some (.slice e) → 0 < Try.prog.cellsOf e := slices_full_of _ (by kernel_rfl)
theorem tu3 : Try.prog.underlying 3 = some (.int .i64) := by kernel_rfl
theorem tu4 : Try.prog.underlying 4 = some .bool := by kernel_rfl
theorem tu22 : Try.prog.underlying 22 = some (.slice 35) := by kernel_rfl
theorem tc35 : Try.prog.cellsOf 35 = 2 := by kernel_rfl
theorem tc3 : Try.prog.cellsOf 3 = 1 := by kernel_rfl
theorem tb35 : Try.prog.bytesOf 35 = 16 := by kernel_rfl
section
variable {H : Type} {enc : TypeId × Value → H} {P : Program} {w w' : World} {base : Nat} {spare : Nat → Bool} {held : Bool}
theorem trodAll_later : ∀ {ts : List TypeId} {vs : List Value} {ds : List (DataW H)} {ps : List MemPlace}, DataW.TrodAll enc P w base spare held ts vs ds ps → (∀ p ∈ ps, w.sameAt w' p) → DataW.TrodAll enc P w' base spare held ts vs ds ps
  | [], [], [], _, h, _ => h
  | _ :: _, _ :: _, _ :: _, _, ⟨p, q, ⟨n, h1⟩, h2, e⟩, hs => ⟨p, q, ⟨n, DataW.trod_carry n _ _ _ h1 (fun x hx => hs x (by rw [e]; exact List.mem_append_left _ hx))⟩, trodAll_later h2 (fun x hx => hs x (by rw [e]; exact List.mem_append_right _ hx)), e⟩
end
/-- A law's end: true, and all as it was. -/
theorem law_post {H : Type} {enc : TypeId × Value → H} {fn : Func} {s : ChangeSpec} {W W' : World} {args : Array Value} {ds gs : List (DataW H)} {before : List MemPlace} (hv : s.vars = []) (hrt : fn.resultTypes = #[4])
    (hpt : ∀ t ∈ fn.params.toList, t < Try.prog.types.size) (hW : DataW.Whole enc Try.prog fn.params.toList s.vars false W args.toList ds gs before)
    (hs : (s.fn H (ds ++ gs)).results = [.lit (.bool true)] ∧ (s.fn H (ds ++ gs)).args = ds ∧ (s.fn H (ds ++ gs)).vars = []) (hB : Below W.heap.size W W') : s.post enc Try.prog fn false true false false W args (.bool true) W' := by
  have hW' := hW
  obtain ⟨p, q, hA, hV, rfl, hfz, hnd⟩ := hW
  have hlt := hW'.lt
  rw [hv] at hV
  obtain ⟨rfl, rfl⟩ := trodVars_none hV
  obtain ⟨h1, h2, h3⟩ := hs
  refine ⟨ds, [], p ++ [], [], p, [], hW', ?_, ?_, ?_, hB.frame _, fun h => by cases h⟩
  · rw [h1, hrt]
    exact trodAll_mk1 (shut_bool tu4 true)
  · rw [h2]
    refine DataW.TrodAll.respare tkids tfull hpt (trodAll_later hA fun x hx => hB.same (hlt x (List.mem_append_left _ hx))) fun x hx => ?_
    simpa using hlt x (List.mem_append_left _ hx)
  · rw [h3, hv]; rfl
/-- What lies there already. -/
abbrev Old (W : World) (b : Nat) : Prop := b < W.heap.size
section
variable {H : Type} {enc : TypeId × Value → H} {W : World} {held : Bool}
theorem arg_int {v : Value} {d : DataW H} {p : List MemPlace} {r : Reach} {b0 : Nat} (hval : Value.okWide Try.prog W r b0 3 v) (h : DataW.Trod enc Try.prog W 0 (fun _ => true) held 3 v d p) : ∃ n : Int, RelD W (Old W) (I .i64 n) v ∧ (-9223372036854775808 ≤ n ∧ n ≤ 9223372036854775807) := by
  obtain ⟨n, rfl, _, _, hw⟩ := open_int tu3 hval h
  exact ⟨n, .c _, by simpa [Lit.wf, IntKind.min, IntKind.max, IntKind.signed, IntKind.bits] using hw⟩
theorem arg_lines {v : Value} {d : DataW H} {p : List MemPlace} {r : Reach} {b0 : Nat} (hval : Value.okWide Try.prog W r b0 22 v) (h : DataW.Trod enc Try.prog W 0 (fun _ => true) held 22 v d p) :
    ∃ l : List (Int × Int), RelD W (Old W) (.l (l.map lnD)) v ∧ ((d = .nil ∧ l = []) ∨ ∃ elems spare, d = .slice elems spare ∧ elems.length = l.length) := by
  obtain ⟨a0, len, cap, rfl⟩ := okWide_slice tu22 hval
  obtain ⟨fuel, hf⟩ := h
  rcases open_slice_pairs tu22 Try.underlying35 tc35 rfl rfl tc3 tc3 hf with ⟨hcs, hx⟩ | ⟨a, len', cap', m, n, V0, V1, D0, D1, P0, P1, hcs, _, hl, hm, hmm, hx, hc⟩
  · simp [Value.cells] at hcs
    obtain ⟨rfl, rfl, rfl⟩ := hcs
    simp (implicitDefEqProofs := false) (dsimp := false) only [Prod.mk.injEq] at hx
    exact ⟨[], .nl none 0, .inl ⟨hx.1, rfl⟩⟩
  · simp [Value.cells] at hcs
    obtain ⟨rfl, rfl, rfl⟩ := hcs
    simp (implicitDefEqProofs := false) (dsimp := false) only [Prod.mk.injEq] at hx
    simp (implicitDefEqProofs := false) (dsimp := false) only [if_true] at hmm
    subst hmm
    have hint : ∀ i, ∃ q : Int × Int, i < len → W.cell? (a.add (i * 2)) = some (.int .i64 q.1) ∧ W.cell? (a.add (i * 2 + 1)) = some (.int .i64 q.2) := by
      intro i
      by_cases hi : i < len
      · obtain ⟨h1, h2, h3, h4⟩ := hc i (by omega)
        obtain ⟨x, e1, _, _⟩ := DataW.trod_int tu3 h3
        obtain ⟨y, e2, _, _⟩ := DataW.trod_int tu3 h4
        simp (implicitDefEqProofs := false) (dsimp := false) only [List.cons.injEq, and_true] at e1 e2
        exact ⟨(x, y), fun _ => ⟨by rw [h1, e1], by rw [h2, e2]⟩⟩
      · exact ⟨(0, 0), fun h => absurd h hi⟩
    obtain ⟨Q, hQ⟩ : ∃ Q : Nat → Int × Int, ∀ i, i < len → W.cell? (a.add (i * 2)) = some (.int .i64 (Q i).1) ∧ W.cell? (a.add (i * 2 + 1)) = some (.int .i64 (Q i).2) := ⟨fun i => Classical.choose (hint i), fun i => Classical.choose_spec (hint i)⟩
    refine ⟨(List.range len).map Q, ?_, .inr ⟨_, _, hx.1, by simp⟩⟩
    by_cases h0 : len = 0
    · subst h0; exact .nl _ _
    have hxs : ∀ (i : Nat) (x : D), (((List.range len).map Q).map lnD)[i]? = some x → i < len ∧ x = lnD (Q i) := by
      intro i x hx
      rw [List.getElem?_map, List.getElem?_map] at hx
      by_cases hi : i < len
      · rw [List.getElem?_range hi] at hx
        simp at hx
        exact ⟨hi, hx.symm⟩
      · rw [List.getElem?_eq_none (by simp; omega)] at hx; cases hx
    have hlen : len = (((List.range len).map Q).map lnD).length := by simp
    have hrel := RelD.l (w := W) (N := Old W) (((List.range len).map Q).map lnD) a _ 2 (fun i k => if k = 0 then .int .i64 (Q i).1 else .int .i64 (Q i).2) (by rw [← hlen]; exact hl) ?_ ?_ ?_ ?_
    · rw [← hlen] at hrel
      exact hrel
    · have := (hQ 0 (by omega)).1
      unfold World.cell? at this
      split at this
      · rename_i C et fr hb
        have hb' := (Array.getElem?_eq_some_iff.1 hb).1
        rw [add_block] at hb'
        exact hb'
      · cases this
    · intro i x hx
      obtain ⟨_, rfl⟩ := hxs i x hx
      rfl
    · intro i k x y hx hy
      obtain ⟨hi, rfl⟩ := hxs i x hx
      match k, hy with
      | 0, hy => exact (hQ i hi).1
      | 1, hy => exact (hQ i hi).2
    · intro i k x y hx hy
      obtain ⟨hi, rfl⟩ := hxs i x hx
      match k, hy with
      | 0, hy => cases hy; exact .c _
      | 1, hy => cases hy; exact .c _
theorem arg_line {v : Value} {d : DataW H} {p : List MemPlace} {r : Reach} {b0 : Nat} (hval : Value.okWide Try.prog W r b0 35 v) (h : DataW.Trod enc Try.prog W 0 (fun _ => true) held 35 v d p) :
    ∃ q : Int × Int, RelD W (Old W) (lnD q) v ∧ True := by
  obtain ⟨v0, v1, y0, y1, n, rfl, _, _, h3, h4⟩ := Joins.open_agg2 Try.underlying35 (by kernel_rfl) tc35 hval h
  obtain ⟨x, e1, _, _⟩ := DataW.trod_int tu3 h3
  obtain ⟨y, e2, _, _⟩ := DataW.trod_int tu3 h4
  simp (implicitDefEqProofs := false) (dsimp := false) only [List.cons.injEq, and_true] at e1 e2
  subst e1
  subst e2
  refine ⟨(x, y), ?_, trivial⟩
  refine RelD.s _ _ (by rfl) fun k z u hz hu => ?_
  match k, hz, hu with
  | 0, hz, hu => cases hz; cases hu; exact .c _
  | 1, hz, hu => cases hz; cases hu; exact .c _
theorem lines_len {ts : List TypeId} {ds : List (DataW H)} {j : Nat} {l : List (Int × Int)} (h : (DataW.weightsEach Try.prog ts ds).all (· ≤ reachBytes) = true) (ht : ts[j]? = some 22) {d : DataW H} (hd : ds[j]? = some d)
    (hl : (d = .nil ∧ l = []) ∨ ∃ elems spare, d = .slice elems spare ∧ elems.length = l.length) : l.length < 2 ^ 43 := by
  rcases hl with ⟨_, rfl⟩ | ⟨elems, spare, rfl, e⟩
  · simp
  · have := sized_slice h ht hd tu22
    rw [tb35] at this
    have := reachBytes_lt
    omega
end
theorem argsOK_nil (w : World) (N : Nat → Prop) : ArgsOK w N [] [] := ⟨rfl, fun k d v h => by simp at h⟩
theorem argsOK_cons {w : World} {N : Nat → Prop} {d : D} {ds : List D} {v : Value} {vs : List Value} (h : RelD w N d v) (hs : ArgsOK w N ds vs) : ArgsOK w N (d :: ds) (v :: vs) :=
  ⟨by simp [hs.1], fun k d' v' hd hv => by
    cases k with
    | zero => simp at hd hv; subst hd; subst hv; exact h
    | succ k => exact hs.2 k d' v' (by simpa using hd) (by simpa using hv)⟩
/-- A law's call. -/
theorem law_calls {f : FuncId} {ds : List D} (h : FnD Try.prog f ds (Bo true)) (W : World) (vs : List Value) (ha : ArgsOK W (Old W) ds vs) : Calls Try.prog f vs.toArray W fun e W' => e = .returned (.bool true) ∧ Below W.heap.size W W' := by
  have := callsIn_wide.1 (h.2 W (Old W) vs (fun b h => h) ha)
  refine this.mono fun e W' ⟨r, v, hr, he, hB, hres⟩ => ?_
  subst hr
  have hv : v = .bool true := relD_c hres
  exact ⟨by rw [he, hv], hB⟩
end Go.Proofs

namespace Go.Proofs
open Go.Aw Go.ChangeShapes Go.WideShapes Go.ChangeAt Go.RowKit Go.Deep
set_option linter.unusedVariables false
set_option maxRecDepth 100000
theorem tu28 : Try.prog.underlying 28 = some (.slice 3) := by kernel_rfl
theorem tu44 : Try.prog.underlying 44 = some (.slice 28) := by kernel_rfl
theorem tc28 : Try.prog.cellsOf 28 = 1 := by kernel_rfl
theorem tb3 : Try.prog.bytesOf 3 = 8 := by kernel_rfl
theorem tb28 : Try.prog.bytesOf 28 = 24 := by kernel_rfl
section
variable {H : Type} {enc : TypeId × Value → H} {W : World} {held : Bool}
theorem old_cell {W : World} {a : Addr} {i : Nat} {v : Value} (h : W.cell? (a.add i) = some v) : Old W a.block := by
  unfold World.cell? at h
  split at h
  · rename_i C et fr hb
    have hb' := (Array.getElem?_eq_some_iff.1 hb).1
    rw [add_block] at hb'
    exact hb'
  · cases h
theorem ints_rel {W : World} {a : Addr} {len cap : Nat} {zs : List Int} (hl : len ≤ cap) (hz : len ≤ zs.length) (hc : ∀ i, i < len → W.cell? (a.add i) = some (.int .i64 (zs.getD i 0))) :
    RelD W (Old W) (.l ((zs.take len).map (I .i64))) (.slice (some a) len cap) := by
  by_cases h0 : len = 0
  · subst h0; exact .nl _ _
  have hxs : ∀ (i : Nat) (x : D), ((zs.take len).map (I .i64))[i]? = some x → i < len ∧ x = I .i64 (zs.getD i 0) := by
    intro i x hx
    rw [List.getElem?_map] at hx
    by_cases hi : i < len
    · rw [List.getElem?_take_of_lt hi, List.getElem?_eq_getElem (by omega)] at hx
      simp at hx
      refine ⟨hi, ?_⟩
      rw [List.getD_eq_getElem?_getD, List.getElem?_eq_getElem (by omega)]
      exact hx.symm
    · rw [List.getElem?_eq_none (by simp; omega)] at hx; cases hx
  have hlen : len = ((zs.take len).map (I .i64)).length := by simp; omega
  have hrel := RelD.l (w := W) (N := Old W) ((zs.take len).map (I .i64)) a cap 1 (fun i k => .int .i64 (zs.getD i 0)) (by rw [← hlen]; exact hl) (old_cell (hc 0 (by omega))) ?_ ?_ ?_
  · rw [← hlen] at hrel
    exact hrel
  · intro i x hx
    obtain ⟨_, rfl⟩ := hxs i x hx
    rfl
  · intro i k x y hx hy
    obtain ⟨hi, rfl⟩ := hxs i x hx
    match k, hy with
    | 0, hy => rw [show i * 1 + 0 = i by omega]; exact hc i hi
  · intro i k x y hx hy
    obtain ⟨hi, rfl⟩ := hxs i x hx
    match k, hy with
    | 0, hy => cases hy; exact .c _
theorem arg_ints {v : Value} {d : DataW H} {p : List MemPlace} {r : Reach} {b0 : Nat} (hval : Value.okWide Try.prog W r b0 28 v) (h : DataW.Trod enc Try.prog W 0 (fun _ => true) held 28 v d p) :
    ∃ l : List Int, RelD W (Old W) (.l (l.map (I .i64))) v ∧ ((d = .nil ∧ l = []) ∨ ∃ elems spare, d = .slice elems spare ∧ elems.length = l.length) := by
  obtain ⟨a0, len, cap, rfl⟩ := okWide_slice tu28 hval
  obtain ⟨fuel, hf⟩ := h
  rcases open_ints tu28 tu3 tc3 hf with ⟨hcs, hx⟩ | ⟨a, len', cap', zs, hcs, _, hl, hm, hz, hx, hc, _⟩
  · simp [Value.cells] at hcs
    obtain ⟨rfl, rfl, rfl⟩ := hcs
    simp (implicitDefEqProofs := false) (dsimp := false) only [Prod.mk.injEq] at hx
    exact ⟨[], .nl none 0, .inl ⟨hx.1, rfl⟩⟩
  · simp [Value.cells] at hcs
    obtain ⟨rfl, rfl, rfl⟩ := hcs
    simp (implicitDefEqProofs := false) (dsimp := false) only [Prod.mk.injEq] at hx
    simp (implicitDefEqProofs := false) (dsimp := false) only [if_true] at hz
    exact ⟨zs.take len, ints_rel hl (by omega) (fun i hi => hc i (by omega)), .inr ⟨_, _, hx.1, by simp [lits]⟩⟩
theorem ints_len {ts : List TypeId} {ds : List (DataW H)} {j : Nat} {l : List Int} (h : (DataW.weightsEach Try.prog ts ds).all (· ≤ reachBytes) = true) (ht : ts[j]? = some 28) {d : DataW H} (hd : ds[j]? = some d)
    (hl : (d = .nil ∧ l = []) ∨ ∃ elems spare, d = .slice elems spare ∧ elems.length = l.length) : l.length < 2 ^ 44 := by
  rcases hl with ⟨_, rfl⟩ | ⟨elems, spare, rfl, e⟩
  · simp
  · have := sized_slice h ht hd tu28
    rw [tb3] at this
    have := reachBytes_lt
    omega
theorem arg_rows {v : Value} {d : DataW H} {p : List MemPlace} {r : Reach} {b0 : Nat} (hval : Value.okWide Try.prog W r b0 44 v) (h : DataW.Trod enc Try.prog W 0 (fun _ => true) held 44 v d p) :
    ∃ l : List (List Int), RelD W (Old W) (.l (l.map liD)) v ∧ ((d = .nil ∧ l = []) ∨ ∃ elems spare, d = .slice elems spare ∧ elems.length = l.length ∧ ∀ x ∈ l, x = [] ∨ ∃ es sp, DataW.slice es sp ∈ elems ∧ es.length = x.length) := by
  obtain ⟨a0, len, cap, rfl⟩ := okWide_slice tu44 hval
  obtain ⟨fuel, hf⟩ := h
  rcases open_int_rows tu44 tu28 tu3 tc28 tc3 hf with ⟨hcs, hx⟩ | ⟨a, len', cap', A, L, C, Z, hcs, _, hl, hm, hx, hr⟩
  · simp [Value.cells] at hcs
    obtain ⟨rfl, rfl, rfl⟩ := hcs
    simp (implicitDefEqProofs := false) (dsimp := false) only [Prod.mk.injEq] at hx
    exact ⟨[], .nl none 0, .inl ⟨hx.1, rfl⟩⟩
  · simp [Value.cells] at hcs
    obtain ⟨rfl, rfl, rfl⟩ := hcs
    simp (implicitDefEqProofs := false) (dsimp := false) only [Prod.mk.injEq] at hx
    have hrow : ∀ r, r < len → RelD W (Old W) (liD ((Z r).take (L r))) (.slice (A r) (L r) (C r)) := by
      intro r hlt
      obtain ⟨_, h1, h2, h3, _, h5, h6⟩ := hr r (by omega)
      cases hA : A r with
      | none =>
        have := h5 hA
        rw [show L r = 0 by omega, show C r = 0 by omega]
        exact .nl _ _
      | some a' => exact ints_rel h1 (by omega) fun i hi => (h6 a' hA).2 i (by omega)
    refine ⟨(List.range len).map fun r => (Z r).take (L r), ?_, .inr ⟨_, _, hx.1, by simp, fun x hx => ?_⟩⟩
    · by_cases h0 : len = 0
      · subst h0; exact .nl _ _
      have hxs : ∀ (i : Nat) (x : D), (((List.range len).map fun r => (Z r).take (L r)).map liD)[i]? = some x → i < len ∧ x = liD ((Z i).take (L i)) := by
        intro i x hx
        rw [List.getElem?_map, List.getElem?_map] at hx
        by_cases hi : i < len
        · rw [List.getElem?_range hi] at hx
          simp at hx
          exact ⟨hi, hx.symm⟩
        · rw [List.getElem?_eq_none (by simp; omega)] at hx; cases hx
      have hlen : len = (((List.range len).map fun r => (Z r).take (L r)).map liD).length := by simp
      have hrel := RelD.l (w := W) (N := Old W) (((List.range len).map fun r => (Z r).take (L r)).map liD) a cap 1 (fun i k => .slice (A i) (L i) (C i)) (by rw [← hlen]; exact hl) (old_cell (hr 0 (by omega)).1) ?_ ?_ ?_
      · rw [← hlen] at hrel
        exact hrel
      · intro i x hx
        obtain ⟨_, rfl⟩ := hxs i x hx
        rfl
      · intro i k x y hx hy
        obtain ⟨hi, rfl⟩ := hxs i x hx
        match k, hy with
        | 0, hy => rw [show i * 1 + 0 = i by omega]; exact (hr i (by omega)).1
      · intro i k x y hx hy
        obtain ⟨hi, rfl⟩ := hxs i x hx
        match k, hy with
        | 0, hy => cases hy; exact hrow i hi
    · obtain ⟨r, hr1, rfl⟩ := List.mem_map.1 hx
      have hlt := List.mem_range.1 hr1
      obtain ⟨_, h1, h2, h3, _, h5, h6⟩ := hr r (by omega)
      cases hA : A r with
      | none =>
        left
        have := h5 hA
        exact List.eq_nil_of_length_eq_zero (by simp (implicitDefEqProofs := false) (dsimp := false) only [List.length_take]; omega)
      | some a' =>
        right
        refine ⟨_, _, List.mem_map.2 ⟨r, hr1, by rw [hA]; rfl⟩, by simp [lits]⟩
theorem weights_all {P : Program} {e : TypeId} {d : DataW H} {n : Nat} (hn : n ∈ d.weights P e) : ∀ {l : List (DataW H)}, d ∈ l → n ∈ DataW.weightsAll P e l := by
  intro l
  induction l with
  | nil => intro h; cases h
  | cons x l ih =>
    intro h
    unfold DataW.weightsAll
    rcases List.mem_cons.1 h with rfl | h
    · exact List.mem_append_left _ hn
    · exact List.mem_append_right _ (ih h)
theorem rows_len {ts : List TypeId} {ds : List (DataW H)} {j : Nat} {l : List (List Int)} (h : (DataW.weightsEach Try.prog ts ds).all (· ≤ reachBytes) = true) (ht : ts[j]? = some 44) {d : DataW H} (hd : ds[j]? = some d)
    (hl : (d = .nil ∧ l = []) ∨ ∃ elems spare, d = .slice elems spare ∧ elems.length = l.length ∧ ∀ x ∈ l, x = [] ∨ ∃ es sp, DataW.slice es sp ∈ elems ∧ es.length = x.length) : l.length < 2 ^ 43 ∧ ∀ x ∈ l, x.length < 2 ^ 44 := by
  rcases hl with ⟨_, rfl⟩ | ⟨elems, spare, rfl, e, hr⟩
  · exact ⟨by simp, fun x hx => by cases hx⟩
  · have hb := reachBytes_lt
    refine ⟨?_, fun x hx => ?_⟩
    · have := sized_slice h ht hd tu44
      rw [tb28] at this
      omega
    · rcases hr x hx with rfl | ⟨es, sp, hm, e2⟩
      · simp
      · have h1 : (es.length + sp.length) * Try.prog.bytesOf 3 ∈ (DataW.slice es sp).weights Try.prog 28 := by
          simp [DataW.weights]
        have h2 : (es.length + sp.length) * Try.prog.bytesOf 3 ∈ (DataW.slice elems spare).weights Try.prog 44 := by
          have := weights_all h1 hm
          simp [DataW.weights, this]
        have := List.all_eq_true.1 h _ (DataW.weights_mem_each ht hd _ h2)
        rw [tb3] at this
        have : (es.length + sp.length) * 8 ≤ reachBytes := by simpa using this
        omega
end
end Go.Proofs

namespace Go.Proofs
open Go.Aw
set_option linter.unusedSimpArgs false
set_option maxRecDepth 10000
def sgL : List (List Int) := [[0, 1], [0, 1]]
def sgR : List (List Int) := [[1, 0], [0, 1]]
theorem sg1_spec  : FnD Try.prog 46 [.l [.l [I .i64 0, I .i64 1], .l [I .i64 0, I .i64 1]], .l [.l [I .i64 1, I .i64 0], .l [I .i64 0, I .i64 1]]] (.t [.l [I .i64 1, I .i64 0], erD 0]) := by
  have h := spairs_spec sgL sgR (by decide)
  rw [show pairsR sgL sgR = [1, 0] by decide +kernel, show stE sgL sgR = 0 by decide +kernel] at h
  exact h
theorem sg1_call  (pure : Bool) (σ : St) (dst : Option Tmp) (K : St → Prop) : CallH Try.prog 46 [.l [.l [I .i64 0, I .i64 1], .l [I .i64 0, I .i64 1]], .l [.l [I .i64 1, I .i64 0], .l [I .i64 0, I .i64 1]]] pure σ dst (.mk : Hid K) = OrH ((pure || D.flat (.t [.l [I .i64 1, I .i64 0], erD 0])) = true ∧ evK (σ.put dst (.d (.t [.l [I .i64 1, I .i64 0], erD 0]))) (.mk : Hid K)) (.mk : Hid (CallH Try.prog 46 [.l [.l [I .i64 0, I .i64 1], .l [I .i64 0, I .i64 1]], .l [.l [I .i64 1, I .i64 0], .l [I .i64 0, I .i64 1]]] pure σ dst (.mk : Hid K))) := CallH.eq0 (sg1_spec ) pure σ dst K
theorem sg1_callQ  (pure : Bool) (C : V → Prop) : CallQ Try.prog 46 [.l [.l [I .i64 0, I .i64 1], .l [I .i64 0, I .i64 1]], .l [.l [I .i64 1, I .i64 0], .l [I .i64 0, I .i64 1]]] pure (.mk : Hid C) = OrH ((pure || D.flat (.t [.l [I .i64 1, I .i64 0], erD 0])) = true ∧ evK (V.d (.t [.l [I .i64 1, I .i64 0], erD 0])) (.mk : Hid C)) (.mk : Hid (CallQ Try.prog 46 [.l [.l [I .i64 0, I .i64 1], .l [I .i64 0, I .i64 1]], .l [.l [I .i64 1, I .i64 0], .l [I .i64 0, I .i64 1]]] pure (.mk : Hid C))) := CallQ.eq0 (sg1_spec ) pure C
theorem sg2_spec  : FnD Try.prog 47 [.l [.l [I .i64 0, I .i64 1], .l [I .i64 0, I .i64 1]], .l [.l [I .i64 1, I .i64 0], .l [I .i64 0, I .i64 1]], .l [I .i64 0, I .i64 1]] (.t [Bo false, erD 0]) := by
  have h := sis_spec sgL sgR [0, 1] (by decide)
  rw [show isB sgL sgR [0, 1] = false by decide +kernel, show isE sgL sgR [0, 1] = 0 by decide +kernel] at h
  exact h
theorem sg2_call  (pure : Bool) (σ : St) (dst : Option Tmp) (K : St → Prop) : CallH Try.prog 47 [.l [.l [I .i64 0, I .i64 1], .l [I .i64 0, I .i64 1]], .l [.l [I .i64 1, I .i64 0], .l [I .i64 0, I .i64 1]], .l [I .i64 0, I .i64 1]] pure σ dst (.mk : Hid K) = OrH ((pure || D.flat (.t [Bo false, erD 0])) = true ∧ evK (σ.put dst (.d (.t [Bo false, erD 0]))) (.mk : Hid K)) (.mk : Hid (CallH Try.prog 47 [.l [.l [I .i64 0, I .i64 1], .l [I .i64 0, I .i64 1]], .l [.l [I .i64 1, I .i64 0], .l [I .i64 0, I .i64 1]], .l [I .i64 0, I .i64 1]] pure σ dst (.mk : Hid K))) := CallH.eq0 (sg2_spec ) pure σ dst K
theorem sg2_callQ  (pure : Bool) (C : V → Prop) : CallQ Try.prog 47 [.l [.l [I .i64 0, I .i64 1], .l [I .i64 0, I .i64 1]], .l [.l [I .i64 1, I .i64 0], .l [I .i64 0, I .i64 1]], .l [I .i64 0, I .i64 1]] pure (.mk : Hid C) = OrH ((pure || D.flat (.t [Bo false, erD 0])) = true ∧ evK (V.d (.t [Bo false, erD 0])) (.mk : Hid C)) (.mk : Hid (CallQ Try.prog 47 [.l [.l [I .i64 0, I .i64 1], .l [I .i64 0, I .i64 1]], .l [.l [I .i64 1, I .i64 0], .l [I .i64 0, I .i64 1]], .l [I .i64 0, I .i64 1]] pure (.mk : Hid C))) := CallQ.eq0 (sg2_spec ) pure C
theorem sg3_spec  : FnD Try.prog 44 [.l [I .i64 1, I .i64 0], .l [I .i64 1, I .i64 0]] (Bo true) := by
  have h := ints_spec [1, 0] [1, 0] (by decide)
  exact h
theorem sg3_call  (pure : Bool) (σ : St) (dst : Option Tmp) (K : St → Prop) : CallH Try.prog 44 [.l [I .i64 1, I .i64 0], .l [I .i64 1, I .i64 0]] pure σ dst (.mk : Hid K) = OrH ((pure || D.flat (Bo true)) = true ∧ evK (σ.put dst (.d (Bo true))) (.mk : Hid K)) (.mk : Hid (CallH Try.prog 44 [.l [I .i64 1, I .i64 0], .l [I .i64 1, I .i64 0]] pure σ dst (.mk : Hid K))) := CallH.eq0 (sg3_spec ) pure σ dst K
theorem sg3_callQ  (pure : Bool) (C : V → Prop) : CallQ Try.prog 44 [.l [I .i64 1, I .i64 0], .l [I .i64 1, I .i64 0]] pure (.mk : Hid C) = OrH ((pure || D.flat (Bo true)) = true ∧ evK (V.d (Bo true)) (.mk : Hid C)) (.mk : Hid (CallQ Try.prog 44 [.l [I .i64 1, I .i64 0], .l [I .i64 1, I .i64 0]] pure (.mk : Hid C))) := CallQ.eq0 (sg3_spec ) pure C
theorem sfact2_spec  : FnD Try.prog 45 [] (Bo true) := by
  refine FnD.go Try.func45 rfl rfl Try.results45 Try.ntmps45 ?_
  simp (implicitDefEqProofs := false) (dsimp := false) only [↓aw_seq, ↓aw_reg, ↓Qseq_n, ↓ops_nil, ↓ops_cons, ↓eval_tmp, ↓eval_int, ↓eval_bool, ↓eval_func, ↓put_some, ↓dK_d, ↓op_move, ↓op_assign, ↓op_call, isD_d, ↓fnK_f, ↓call_H, ↓callK_H, ↓allT_nil, ↓allT_cons, ↓allD_nil, ↓allD_cons, ↓td_d, ↓cells_c, ↓cells_l, ↓one_i, ↓one_l, ↓bs_, ↓op_bs, ↓bsL_f, ↓stored_mk, ↓sl_nil, ↓sl_cons, ↓sT_assign, ↓sT_bs, ↓vsz_int, ↓vsz_slice, ↓inO_2, ↓fm_nil, ↓fm_cons, ↓ty3, ↓zb3, ↓ty28, ↓sl28, ↓zb28, ↓sl44, List.getD_cons_zero, List.getD_cons_succ, List.set_cons_zero, List.set_cons_succ, List.nil_append, List.append_nil, List.map_cons, List.map_nil, List.length_cons, List.length_nil, List.all_cons, List.all_nil, Bool.true_and, Bool.and_self, Bool.or_false, Nat.reduceAdd, Nat.reduceSub, Nat.reduceMul, Nat.zero_add, List.replicate, evK_go, reduceIte, Nat.reduceEqDiff, Nat.reduceLT, and_self, true_and, Int.zero_add]
  simp (implicitDefEqProofs := false) (dsimp := false) only [sg1_call, sg2_call, sg3_call, eval_nilI, ↓er_eql, ↓cdK_true, ↓gdK_t, ↓gval_mk, ↓gvL_zero, ↓gvL_succ, ↓nthK_H, ↓nthH_zero, ↓nthH_succ, ↓aw_seq, ↓aw_ret, ↓aw_reg, ↓Qseq_n, ↓Qret_r, ↓ops_nil, ↓ops_cons, ↓ops_guard, ↓eval_tmp, ↓eval_int, ↓eval_func, ↓put_some, ↓bK_b, ↓dK_d, ↓tK_t, ↓op_move, ↓op_assign, ↓op_pick, ↓op_bin, ↓op_not, ↓op_extract, ↓op_call, ↓orH_T, isD_d, ↓fnK_f, ↓call_H, ↓callK_H, ↓allT_nil, ↓allT_cons, ↓allD_nil, ↓allD_cons, ↓td_d, ↓ret_1, ↓st_tm, ↓cells_c, ↓one_i, ↓bs_, ↓op_bs, ↓bsL_f, ↓stored_mk, ↓sl_nil, ↓sl_cons, ↓sT_move, ↓sT_assign, ↓sT_pick, ↓sT_bin, ↓sT_un, ↓sT_extract, ↓sT_bs, ↓sT_call, ↓vsz_int, ↓inO_2, ↓fm_nil, ↓fm_cons, ↓ty3, ↓zb3, ↓sl28, List.getD_cons_zero, List.getD_cons_succ, List.set_cons_zero, List.set_cons_succ, List.append_nil, List.map_cons, List.map_nil, List.length_cons, List.length_nil, List.all_cons, List.all_nil, Bool.and_true, Bool.true_and, Bool.and_self, Bool.true_or, Bool.or_false, Nat.reduceAdd, Nat.reduceSub, Nat.reduceMul, Nat.zero_add, evK_go, reduceIte, decide_true, Bool.not_false, Nat.reduceEqDiff, Nat.reduceLT, and_self, true_and, and_true, Int.zero_add]
  refine ⟨by decide, by decide, by decide, by decide, by decide, by decide, ?_⟩
  (repeat refine OrH.l ?_)
  refine ⟨by decide, ?_⟩
  (repeat refine OrH.l ?_)
  decide
theorem sfact2_call  (pure : Bool) (σ : St) (dst : Option Tmp) (K : St → Prop) : CallH Try.prog 45 [] pure σ dst (.mk : Hid K) = OrH ((pure || D.flat (Bo true)) = true ∧ evK (σ.put dst (.d (Bo true))) (.mk : Hid K)) (.mk : Hid (CallH Try.prog 45 [] pure σ dst (.mk : Hid K))) := CallH.eq0 (sfact2_spec ) pure σ dst K
theorem sfact2_callQ  (pure : Bool) (C : V → Prop) : CallQ Try.prog 45 [] pure (.mk : Hid C) = OrH ((pure || D.flat (Bo true)) = true ∧ evK (V.d (Bo true)) (.mk : Hid C)) (.mk : Hid (CallQ Try.prog 45 [] pure (.mk : Hid C))) := CallQ.eq0 (sfact2_spec ) pure C
theorem mem_take {x : List Nat} (hx : x.Nodup) {b t : Nat} (hb : b ∈ x) : b ∈ x.take t ↔ x.idxOf b < t := by
  constructor
  · intro h
    obtain ⟨s, hs, e⟩ := List.mem_iff_getElem.1 h
    rw [List.length_take] at hs
    rw [List.getElem_take] at e
    have : x.idxOf b = s := by
      rw [← e]
      exact List.Nodup.idxOf_getElem hx s (by omega)
    omega
  · intro h
    have h1 := List.idxOf_lt_length_of_mem hb
    have e := List.getElem_idxOf h1
    exact List.mem_iff_getElem.2 ⟨x.idxOf b, by rw [List.length_take]; omega, by rw [List.getElem_take]; exact e⟩
theorem stbL_iff {n : Nat} {A B : List (List Nat)} (hA : Prefs n A) {H : List Nat} (hl : H.length = n) (hd : H.Nodup) (hr : ∀ y ∈ H, y < n) : stbL A B H = true ↔ Stb n A B (fun i => H.getD i default) := by
  have hP : Prefs n (List.replicate n H) := ⟨by simp, fun x hx => by rw [List.eq_of_mem_replicate hx]; exact ⟨hl, hd, hr⟩⟩
  have hm : ∀ j, j < n → j ∈ H := fun j hj => by
    have hm := hP.mem hj hj
    rwa [List.getD_eq_getElem?_getD, List.getElem?_replicate, if_pos hj] at hm
  have hg : ∀ k, k < n → H.idxOf (H.getD k default) = k := fun k hk => by
    rw [List.getD_eq_getElem?_getD, List.getElem?_eq_getElem (by omega)]
    exact List.Nodup.idxOf_getElem hd k (by omega)
  have hi : ∀ b, b < n → H.getD (H.idxOf b) default = b := fun b hb => by
    have h1 := List.idxOf_lt_length_of_mem (hm b hb)
    rw [List.getD_eq_getElem?_getD, List.getElem?_eq_getElem h1]
    exact List.getElem_idxOf h1
  have hH : ∀ k, k < n → H.getD k default < n := fun k hk => hr _ (getD_mem (by omega))
  unfold stbL
  rw [List.all_eq_true]
  constructor
  · intro h i k hin hkn hbad
    obtain ⟨h1, h2⟩ := hbad
    have h3 := List.all_eq_true.1 (h i (by simp; omega)) (H.getD k default) ((mem_take (hA.row hin).2.1 (hA.mem hin (hH k hkn))).2 h1)
    rw [hg k hkn] at h3
    have h4 : ¬ (B.getD (H.getD k default) default).idxOf i < (B.getD (H.getD k default) default).idxOf k := by simpa using h3
    exact h4 h2
  · intro h i hi0
    have hin : i < n := by have := List.mem_range.1 hi0; omega
    refine List.all_eq_true.2 fun b hb => ?_
    have hbx := List.mem_of_mem_take hb
    have hbn := (hA.row hin).2.2 b hbx
    have h1 := (mem_take (hA.row hin).2.1 hbx).1 hb
    have hk := List.idxOf_lt_length_of_mem (hm b hbn)
    have h2 := h i (H.idxOf b) hin (by omega)
    simp (implicitDefEqProofs := false) (dsimp := false) only [hi b hbn] at h2
    rw [decide_eq_false (fun h3 : (B.getD b default).idxOf i < (B.getD b default).idxOf (H.idxOf b) => h2 ⟨h1, h3⟩)]
    rfl
end Go.Proofs

namespace Go.Proofs
open Go.Aw
set_option linter.unusedSimpArgs false
set_option maxRecDepth 10000
structure StW (L R : List (List Int)) (n : Nat) (G : List Nat) : Prop where
  hi : n ≤ 6
  lenL : L.length = n
  len : G.length = n
  lt : ∀ y ∈ G, y < n
  nd : G.Nodup
  isE : isE L R (G.map Int.ofNat) = 0
  isB : isB L R (G.map Int.ofNat) = true
theorem pairs_nodup {n : Nat} {G : List Nat} (hl : G.length = n) (hp : Pairs n fun i => G.getD i default) : G.Nodup ∧ ∀ y ∈ G, y < n := by
  have hg : ∀ i (h : i < G.length), G.getD i default = G[i] := fun i h => by rw [List.getD_eq_getElem?_getD, List.getElem?_eq_getElem h]; rfl
  constructor
  · rw [List.Nodup, List.pairwise_iff_getElem]
    intro i j hi hj hij e
    have := hp.inj i j (by omega) (by omega) (by show G.getD i default = G.getD j default; rw [hg i hi, hg j hj]; exact e)
    omega
  · intro y hy
    obtain ⟨i, hi, rfl⟩ := List.mem_iff_getElem.1 hy
    have := hp.lt i (by omega)
    rwa [hg i hi] at this
theorem row_zero {n : Nat} {G : List Nat} (hl : G.length = n) (hd : G.Nodup) (hr : ∀ y ∈ G, y < n) : rowE n (G.map Int.ofNat) = 0 := by
  unfold rowE
  rw [if_neg (by simp [hl]), if_neg, if_pos]
  · rw [List.Nodup, List.pairwise_map]
    exact hd.imp fun {a b} h e => h (Int.ofNat.inj e)
  · rw [Bool.not_eq_false, List.all_eq_true]
    intro y hy
    obtain ⟨z, hz, rfl⟩ := List.mem_map.1 hy
    have := hr z hz
    exact inW_iff.2 ⟨Int.natCast_nonneg z, by show (z : Int) ≤ _; omega⟩
theorem toN_of (G : List Nat) : (G.map Int.ofNat).map Int.toNat = G := by
  rw [List.map_map]
  exact List.map_id _
theorem stW {L R : List (List Int)} (h : stE L R = 0) : StW L R L.length (pairsR L R) := by
  have ok := st_ok h
  have e : pairsR L R = gale L.length (toN L) (toN R) := if_pos h
  obtain ⟨g1, g2, g3, _⟩ := gale_spec ok.pL ok.pR
  rw [← e] at g1 g2 g3
  obtain ⟨h1, h2⟩ := pairs_nodup g1 g2
  have hE : isE L R ((pairsR L R).map Int.ofNat) = 0 := by
    unfold isE
    rw [if_pos h]
    exact row_zero g1 h1 h2
  refine ⟨ok.hi, rfl, g1, h2, h1, hE, ?_⟩
  unfold isB
  rw [if_pos hE, toN_of]
  exact (stbL_iff ok.pL g1 h1 h2).2 g3
theorem lStableGale_spec (L R : List (List Int)) (hL : L.length < 2 ^ 43 ∧ ∀ x ∈ L, x.length < 2 ^ 44) (hR : R.length < 2 ^ 43 ∧ ∀ x ∈ R, x.length < 2 ^ 44) :
    FnD Try.prog 11 [.l (L.map liD), .l (R.map liD)] (Bo true) := by
  have hpre : (L.length < 2 ^ 62 ∧ ∀ x ∈ L, x.length < 2 ^ 62) ∧ R.length < 2 ^ 62 ∧ ∀ x ∈ R, x.length < 2 ^ 62 := ⟨⟨by omega, fun x hx => by have := hL.2 x hx; omega⟩, by omega, fun x hx => by have := hR.2 x hx; omega⟩
  refine FnD.go Try.func11 rfl rfl Try.results11 Try.ntmps11 ?_
  simp (implicitDefEqProofs := false) (dsimp := false) only [↓aw_seq, ↓aw_reg, ↓Qseq_n, ↓ops_nil, ↓ops_cons, ↓eval_bool, ↓eval_func, ↓put_some, ↓op_assign, ↓op_call, isD_d, ↓fnK_f, ↓call_H, ↓callK_H, ↓allT_nil, ↓td_d, List.set_cons_zero, List.set_cons_succ, List.cons_append, List.nil_append, List.append_nil, List.map_cons, List.map_nil, List.length_cons, List.length_nil, List.all_nil, Bool.and_self, Nat.reduceAdd, Nat.reduceSub, Nat.reduceMul, Nat.zero_add, List.replicate, evK_go, reduceIte, Nat.reduceEqDiff, Nat.reduceLT, and_self, Int.zero_add]
  simp (implicitDefEqProofs := false) (dsimp := false) only [sfact2_call, spairs_call, hpre, eval_nilI, ↓er_neq, ↓cdK_false, ↓cdK_not, ↓nthK_H, ↓nthH_zero, ↓nthH_succ, ↓aw_cond, ↓aw_seq, ↓aw_skip, ↓aw_reg, ↓Qseq_n, ↓ops_nil, ↓ops_cons, ↓eval_tmp, ↓eval_func, ↓put_some, ↓bK_b, ↓tK_t, ↓op_move, ↓op_assign, ↓op_bin, ↓op_not, ↓op_extract, ↓op_call, isD_d, ↓fnK_f, ↓call_H, ↓callK_H, ↓allT_nil, ↓allT_cons, ↓td_d, List.getD_cons_zero, List.getD_cons_succ, List.set_cons_zero, List.set_cons_succ, List.append_nil, List.all_cons, List.all_nil, Bool.true_and, Bool.and_self, Bool.true_or, Nat.reduceAdd, Nat.reduceSub, Nat.reduceMul, evK_go, reduceIte, Bool.not_true, Nat.reduceEqDiff, Nat.reduceLT, and_self, true_and]
  refine OrH.l (OrH.l (OrH.l (OrH.l ⟨⟨hpre.1.2, hpre.2.2⟩, ?_⟩)))
  refine cdK_dec (fun hc => ?_) (fun hc => ?_)
  rotate_left
  · have e : pairsR L R = [] := if_neg hc
    simp (implicitDefEqProofs := false) (dsimp := false) only [e, ↓aw_seq, ↓aw_ret, ↓aw_reg, ↓Qseq_n, ↓Qseq_r, ↓Qret_r, ↓ops_nil, ↓ops_cons, ↓eval_tmp, ↓eval_int, ↓put_some, ↓lenK_l, ↓binE_i, ↓bi_eql, ↓op_move, ↓op_assign, ↓op_bin, ↓op_len, ↓td_d, ↓ret_1, ↓sl28, List.getD_cons_zero, List.getD_cons_succ, List.set_cons_zero, List.set_cons_succ, List.map_nil, List.length_nil, Nat.reduceAdd, Nat.reduceSub, Nat.reduceMul, evK_go, reduceIte, decide_true, Nat.reduceEqDiff, Nat.reduceLT, Int.cast_ofNat_Int]
  have w := stW hc
  obtain ⟨hi, lenL, len, lt, nd, hE, hB⟩ := w
  rw [nDI]
  obtain ⟨G, hG⟩ : ∃ G, G = (pairsR L R).map Int.ofNat := ⟨_, rfl⟩
  have hGl : G.length = L.length := by rw [hG, List.length_map]; exact len
  have hall : (G.all fun x => inB x 0 ((L.length : Int) - 1)) = true := by
    rw [List.all_eq_true]
    intro y hy
    rw [hG] at hy
    obtain ⟨z, hz, rfl⟩ := List.mem_map.1 hy
    have := lt z hz
    exact inW_iff.2 ⟨Int.natCast_nonneg z, by show (z : Int) ≤ _; omega⟩
  have htw : twice G = false := by
    show (!decide G.Nodup) = false
    rw [decide_eq_true]
    · rfl
    · rw [hG, List.Nodup, List.pairwise_map]
      exact nd.imp fun {a b} h e => h (Int.ofNat.inj e)
  rw [← hG] at hE hB ⊢
  have hG62 : G.length < 2 ^ 62 := by omega
  have hs : ((L.length < 2 ^ 62 ∧ ∀ x ∈ L, x.length < 2 ^ 62) ∧ R.length < 2 ^ 62 ∧ ∀ x ∈ R, x.length < 2 ^ 62) ∧ G.length < 2 ^ 62 := ⟨hpre, hG62⟩
  simp (implicitDefEqProofs := false) (dsimp := false) only [hc, hGl, allR_call, twice_call, hall, htw, sis_call, hs, hE, hB, eval_nilI, ↓er_eql, ↓cdK_true, ↓cdK_false, ↓gdK_t, ↓gdK_f, ↓gval_mk, ↓gvL_zero, ↓gvL_succ, ↓nthK_H, ↓nthH_zero, ↓nthH_succ, ↓aw_cond, ↓aw_seq, ↓aw_ret, ↓aw_skip, ↓aw_reg, ↓Qseq_n, ↓Qret_r, ↓ops_nil, ↓ops_cons, ↓ops_guard, ↓eval_tmp, ↓eval_int, ↓eval_func, ↓put_some, ↓bK_b, ↓lenK_l, ↓tK_t, ↓binE_i, ↓bi_sub, ↓bi_neq, ↓in_i64, ↓op_move, ↓op_assign, ↓op_pick, ↓op_bin, ↓op_not, ↓op_extract, ↓op_len, ↓op_call, isD_d, ↓fnK_f, ↓call_H, ↓callK_H, ↓allT_nil, ↓allT_cons, ↓td_d, ↓ret_1, ↓st_tm, ↓sl28, ↓sl44, List.getD_cons_zero, List.getD_cons_succ, List.set_cons_zero, List.set_cons_succ, List.append_nil, List.length_map, List.all_cons, List.all_nil, Bool.and_true, Bool.true_and, Bool.and_self, Bool.true_or, Nat.reduceAdd, Nat.reduceSub, Nat.reduceMul, evK_go, reduceIte, decide_true, Bool.not_true, Nat.reduceEqDiff, Nat.reduceLT, and_self, true_and, and_true]
  refine ⟨by omega, ?_⟩
  (repeat refine OrH.l ?_)
  exact ⟨hpre.1.2, hpre.2.2⟩
end Go.Proofs

namespace Go.Proofs
open Go.Aw
set_option linter.unusedSimpArgs false
set_option maxRecDepth 10000
set_option maxHeartbeats 1000000
theorem placeN_spec (l : List Nat) (n : Nat) (hpre : l.length < 2 ^ 62 ∧ n ∈ l) : FnD Try.prog 48 [.l (l.map nD), I .i64 (n : Int)] (I .i64 (l.idxOf n : Nat)) := by
  have h := place_spec (l.map Int.ofNat) n (by simpa using hpre.1)
  rw [place_nat, if_pos hpre.2, ← nDI] at h
  exact h
theorem placeN_call (l : List Nat) (n : Nat) (pure : Bool) (σ : St) (dst : Option Tmp) (K : St → Prop) : CallH Try.prog 48 [.l (l.map nD), I .i64 (n : Int)] pure σ dst (.mk : Hid K) = OrH ((l.length < 2 ^ 62 ∧ n ∈ l) ∧ (pure || D.flat (I .i64 (l.idxOf n : Nat))) = true ∧ evK (σ.put dst (.d (I .i64 (l.idxOf n : Nat)))) (.mk : Hid K)) (.mk : Hid (CallH Try.prog 48 [.l (l.map nD), I .i64 (n : Int)] pure σ dst (.mk : Hid K))) := CallH.eq (placeN_spec l n) pure σ dst K
theorem placeN_callQ (l : List Nat) (n : Nat) (pure : Bool) (C : V → Prop) : CallQ Try.prog 48 [.l (l.map nD), I .i64 (n : Int)] pure (.mk : Hid C) = OrH ((l.length < 2 ^ 62 ∧ n ∈ l) ∧ (pure || D.flat (I .i64 (l.idxOf n : Nat))) = true ∧ evK (V.d (I .i64 (l.idxOf n : Nat))) (.mk : Hid C)) (.mk : Hid (CallQ Try.prog 48 [.l (l.map nD), I .i64 (n : Int)] pure (.mk : Hid C))) := CallQ.eq (placeN_spec l n) pure C
theorem allRN_spec (l : List Nat) (low high : Int) (hpre : l.length < 2 ^ 62) : FnD Try.prog 30 [.l (l.map nD), I .i64 low, I .i64 high] (Bo ((l.map Int.ofNat).all fun x => inB x low high)) := by
  have h := allR_spec (l.map Int.ofNat) low high (by simpa using hpre)
  rw [← nDI] at h
  exact h
theorem allRN_call (l : List Nat) (low high : Int) (pure : Bool) (σ : St) (dst : Option Tmp) (K : St → Prop) : CallH Try.prog 30 [.l (l.map nD), I .i64 low, I .i64 high] pure σ dst (.mk : Hid K) = OrH ((l.length < 2 ^ 62) ∧ (pure || D.flat (Bo ((l.map Int.ofNat).all fun x => inB x low high))) = true ∧ evK (σ.put dst (.d (Bo ((l.map Int.ofNat).all fun x => inB x low high)))) (.mk : Hid K)) (.mk : Hid (CallH Try.prog 30 [.l (l.map nD), I .i64 low, I .i64 high] pure σ dst (.mk : Hid K))) := CallH.eq (allRN_spec l low high) pure σ dst K
theorem allRN_callQ (l : List Nat) (low high : Int) (pure : Bool) (C : V → Prop) : CallQ Try.prog 30 [.l (l.map nD), I .i64 low, I .i64 high] pure (.mk : Hid C) = OrH ((l.length < 2 ^ 62) ∧ (pure || D.flat (Bo ((l.map Int.ofNat).all fun x => inB x low high))) = true ∧ evK (V.d (Bo ((l.map Int.ofNat).all fun x => inB x low high))) (.mk : Hid C)) (.mk : Hid (CallQ Try.prog 30 [.l (l.map nD), I .i64 low, I .i64 high] pure (.mk : Hid C))) := CallQ.eq (allRN_spec l low high) pure C
theorem twiceN_spec (l : List Nat) (hpre : l.length < 2 ^ 62) : FnD Try.prog 29 [.l (l.map nD)] (Bo (twice (l.map Int.ofNat))) := by
  have h := twice_spec (l.map Int.ofNat) (by simpa using hpre)
  rw [← nDI] at h
  exact h
theorem twiceN_call (l : List Nat) (pure : Bool) (σ : St) (dst : Option Tmp) (K : St → Prop) : CallH Try.prog 29 [.l (l.map nD)] pure σ dst (.mk : Hid K) = OrH ((l.length < 2 ^ 62) ∧ (pure || D.flat (Bo (twice (l.map Int.ofNat)))) = true ∧ evK (σ.put dst (.d (Bo (twice (l.map Int.ofNat))))) (.mk : Hid K)) (.mk : Hid (CallH Try.prog 29 [.l (l.map nD)] pure σ dst (.mk : Hid K))) := CallH.eq (twiceN_spec l) pure σ dst K
theorem twiceN_callQ (l : List Nat) (pure : Bool) (C : V → Prop) : CallQ Try.prog 29 [.l (l.map nD)] pure (.mk : Hid C) = OrH ((l.length < 2 ^ 62) ∧ (pure || D.flat (Bo (twice (l.map Int.ofNat)))) = true ∧ evK (V.d (Bo (twice (l.map Int.ofNat)))) (.mk : Hid C)) (.mk : Hid (CallQ Try.prog 29 [.l (l.map nD)] pure (.mk : Hid C))) := CallQ.eq (twiceN_spec l) pure C
structure HW (L R : List (List Int)) (h : List Int) (n : Nat) (H : List Nat) : Prop where
  st : stE L R = 0
  dat : h.map (I .i64) = H.map nD
  len : H.length = n
  lt : ∀ y ∈ H, y < n
  nd : H.Nodup
  mem : ∀ j, j < n → j ∈ H
  at_ : ∀ j, j < n → H.getD (H.idxOf j) default = j
  pr : Pairs n fun i => H.getD i default
  sb : Stb n (toN L) (toN R) fun i => H.getD i default
theorem list_pairs {n : Nat} {H : List Nat} (hl : H.length = n) (hd : H.Nodup) (hr : ∀ y ∈ H, y < n) : (∀ j, j < n → j ∈ H) ∧ (∀ j, j < n → H.getD (H.idxOf j) default = j) ∧ Pairs n fun i => H.getD i default := by
  have hP : Prefs n (List.replicate n H) := ⟨by simp, fun x hx => by rw [List.eq_of_mem_replicate hx]; exact ⟨hl, hd, hr⟩⟩
  have hm : ∀ j, j < n → j ∈ H := fun j hj => by
    have hm := hP.mem hj hj
    rwa [List.getD_eq_getElem?_getD, List.getElem?_replicate, if_pos hj] at hm
  have hg : ∀ k, k < n → H.idxOf (H.getD k default) = k := fun k hk => by
    rw [List.getD_eq_getElem?_getD, List.getElem?_eq_getElem (by omega)]
    exact List.Nodup.idxOf_getElem hd k (by omega)
  refine ⟨hm, fun b hb => ?_, ⟨fun i hi => hr _ (getD_mem (by omega)), fun i k hi hk e => ?_⟩⟩
  · have h1 := List.idxOf_lt_length_of_mem (hm b hb)
    rw [List.getD_eq_getElem?_getD, List.getElem?_eq_getElem h1]
    exact List.getElem_idxOf h1
  · have e : H.getD i default = H.getD k default := e
    rw [← hg i hi, ← hg k hk, e]
theorem hW {L R : List (List Int)} {h : List Int} (hE : isE L R h = 0) (hB : isB L R h = true) : HW L R h L.length (h.map Int.toNat) := by
  have hs : stE L R = 0 := by
    refine Classical.byContradiction fun hn => ?_
    have : isE L R h = stE L R := if_neg hn
    exact hn (by rw [← this]; exact hE)
  have hr : rowE L.length h = 0 := by
    have : isE L R h = rowE L.length h := if_pos hs
    rw [← this]; exact hE
  have ok := st_ok hs
  obtain ⟨h1, h2, h3⟩ := rowE_zero hr
  have g1 : (h.map Int.toNat).length = L.length := by rw [List.length_map]; exact h1
  have g2 : ∀ y ∈ h.map Int.toNat, y < L.length := fun y hy => by
    obtain ⟨z, hz, rfl⟩ := List.mem_map.1 hy
    have := h2 z hz
    omega
  have g3 : (h.map Int.toNat).Nodup := by
    rw [List.Nodup, List.pairwise_map]
    refine h3.imp_of_mem fun {a b} ha hb hne e => ?_
    have := (h2 a ha).1
    have := (h2 b hb).1
    exact hne (by omega)
  obtain ⟨g4, g5, g6⟩ := list_pairs g1 g3 g2
  refine ⟨hs, by rw [nDI, toNat_back fun y hy => (h2 y hy).1], g1, g2, g3, g4, g5, g6, ?_⟩
  refine (stbL_iff ok.pL g1 g3 g2).1 ?_
  have : isB L R h = stbL (toN L) (toN R) (h.map Int.toNat) := if_pos hE
  rw [← this]; exact hB
theorem gale_best {L R : List (List Int)} {h : List Int} {n : Nat} {H : List Nat} (w : HW L R h n H) (hn : n = L.length) :
    (∀ i, i < n → ((toN L).getD i default).idxOf ((pairsR L R).getD i default) ≤ ((toN L).getD i default).idxOf (H.getD i default)) ∧
    (∀ j, j < n → ((toN R).getD j default).idxOf (H.idxOf j) ≤ ((toN R).getD j default).idxOf ((pairsR L R).idxOf j)) := by
  subst hn
  have ok := st_ok w.st
  have e : pairsR L R = gale L.length (toN L) (toN R) := if_pos w.st
  have sw := stW w.st
  obtain ⟨g1, g2, g3, g4⟩ := gale_spec ok.pL ok.pR
  obtain ⟨p1, p2, p3⟩ := list_pairs sw.len sw.nd sw.lt
  rw [e] at p1 p2 ⊢
  refine ⟨fun i hi => g4 _ w.pr w.sb i hi, fun j hj => ?_⟩
  have h1 := List.idxOf_lt_length_of_mem (p1 j hj)
  have h2 := List.idxOf_lt_length_of_mem (w.mem j hj)
  have hl := w.len
  have := gale_worst ok.pL ok.pR w.pr w.sb (i := (gale L.length (toN L) (toN R)).idxOf j) (k := H.idxOf j) (by omega) (by omega) (by rw [p2 j hj]; exact w.at_ j hj)
  unfold rk at this
  simp (implicitDefEqProofs := false) (dsimp := false) only [w.at_ j hj] at this
  exact this
theorem lStableBest_spec (L R : List (List Int)) (h : List Int) (hL : L.length < 2 ^ 43 ∧ ∀ x ∈ L, x.length < 2 ^ 44) (hR : R.length < 2 ^ 43 ∧ ∀ x ∈ R, x.length < 2 ^ 44) (hh : h.length < 2 ^ 44) :
    FnD Try.prog 12 [.l (L.map liD), .l (R.map liD), .l (h.map (I .i64))] (Bo true) := by
  have hpre : (L.length < 2 ^ 62 ∧ ∀ x ∈ L, x.length < 2 ^ 62) ∧ R.length < 2 ^ 62 ∧ ∀ x ∈ R, x.length < 2 ^ 62 := ⟨⟨by omega, fun x hx => by have := hL.2 x hx; omega⟩, by omega, fun x hx => by have := hR.2 x hx; omega⟩
  have hpre2 : ((L.length < 2 ^ 62 ∧ ∀ x ∈ L, x.length < 2 ^ 62) ∧ R.length < 2 ^ 62 ∧ ∀ x ∈ R, x.length < 2 ^ 62) ∧ h.length < 2 ^ 62 := ⟨hpre, by omega⟩
  refine FnD.go Try.func12 rfl rfl Try.results12 Try.ntmps12 ?_
  simp (implicitDefEqProofs := false) (dsimp := false) only [↓aw_seq, ↓aw_reg, ↓Qseq_n, ↓ops_nil, ↓ops_cons, ↓eval_bool, ↓eval_func, ↓put_some, ↓op_assign, ↓op_call, isD_d, ↓fnK_f, ↓call_H, ↓callK_H, ↓allT_nil, ↓td_d, List.set_cons_zero, List.set_cons_succ, List.cons_append, List.nil_append, List.append_nil, List.map_cons, List.map_nil, List.length_cons, List.length_nil, List.all_nil, Bool.and_self, Nat.reduceAdd, Nat.reduceSub, Nat.reduceMul, Nat.zero_add, List.replicate, evK_go, reduceIte, Nat.reduceEqDiff, Nat.reduceLT, and_self, Int.zero_add]
  simp (implicitDefEqProofs := false) (dsimp := false) only [sfact2_call, sis_call, hpre2, eval_nilI, ↓er_neq, ↓cdK_false, ↓cdK_not, ↓gdK_f, ↓gval_mk, ↓gvL_zero, ↓gvL_succ, ↓nthK_H, ↓nthH_zero, ↓nthH_succ, ↓aw_cond, ↓aw_seq, ↓aw_skip, ↓aw_reg, ↓Qseq_n, ↓ops_nil, ↓ops_cons, ↓ops_guard, ↓eval_tmp, ↓eval_func, ↓put_some, ↓bK_b, ↓tK_t, ↓op_move, ↓op_assign, ↓op_bin, ↓op_not, ↓op_extract, ↓op_call, isD_d, ↓fnK_f, ↓call_H, ↓callK_H, ↓allT_nil, ↓allT_cons, ↓td_d, ↓st_tm, List.getD_cons_zero, List.getD_cons_succ, List.set_cons_zero, List.set_cons_succ, List.append_nil, List.all_cons, List.all_nil, Bool.and_true, Bool.true_and, Bool.and_self, Bool.true_or, Nat.reduceAdd, Nat.reduceSub, Nat.reduceMul, evK_go, reduceIte, Bool.not_true, Nat.reduceEqDiff, Nat.reduceLT, and_self, true_and, and_true]
  refine OrH.l (OrH.l (OrH.l (OrH.l ⟨⟨hpre.1.2, hpre.2.2⟩, ?_⟩)))
  refine cdK_dec (fun hE => ?_) (fun hE => ?_)
  rotate_left
  · have hB := isB_not hE
    simp (implicitDefEqProofs := false) (dsimp := false) only [decide_eq_false hE, hB, eval_nilI, ↓er_eql, ↓cdK_true, ↓cdK_false, ↓gdK_f, ↓gval_mk, ↓gvL_zero, ↓gvL_succ, ↓aw_cond, ↓aw_seq, ↓aw_ret, ↓aw_reg, ↓Qseq_n, ↓Qseq_r, ↓Qret_r, ↓ops_nil, ↓ops_cons, ↓ops_guard, ↓eval_tmp, ↓eval_bool, ↓put_some, ↓bK_b, ↓op_move, ↓op_assign, ↓op_pick, ↓op_bin, ↓op_not, ↓td_d, ↓ret_1, ↓st_tm, List.getD_cons_zero, List.getD_cons_succ, List.set_cons_zero, List.set_cons_succ, Nat.reduceAdd, Nat.reduceSub, Nat.reduceMul, evK_go, reduceIte, Bool.not_false, Nat.reduceEqDiff, Nat.reduceLT]
  cases hB : isB L R h with
  | false =>
    simp (implicitDefEqProofs := false) (dsimp := false) only [decide_eq_true hE, hE, eval_nilI, ↓er_eql, ↓cdK_true, ↓cdK_false, ↓gdK_f, ↓gval_mk, ↓gvL_zero, ↓gvL_succ, ↓aw_cond, ↓aw_seq, ↓aw_ret, ↓aw_reg, ↓Qseq_n, ↓Qseq_r, ↓Qret_r, ↓ops_nil, ↓ops_cons, ↓ops_guard, ↓eval_tmp, ↓eval_bool, ↓put_some, ↓bK_b, ↓op_move, ↓op_assign, ↓op_pick, ↓op_bin, ↓op_not, ↓td_d, ↓ret_1, ↓st_tm, List.getD_cons_zero, List.getD_cons_succ, List.set_cons_zero, List.set_cons_succ, Nat.reduceAdd, Nat.reduceSub, Nat.reduceMul, evK_go, reduceIte, decide_true, Bool.not_true, Bool.not_false, Nat.reduceEqDiff, Nat.reduceLT]
  | true =>
  have w := hW hE hB
  have sw := stW w.st
  have ok := st_ok w.st
  obtain ⟨b1, b2⟩ := gale_best w rfl
  obtain ⟨p1, p2, p3⟩ := list_pairs sw.len sw.nd sw.lt
  have hA := ok.pL
  have hBp := ok.pR
  have hdL := ok.dL
  have hdR := ok.dR
  have hdat := w.dat
  have hHl := w.len
  have hHm := w.mem
  have hHr := w.lt
  have hn6 := ok.hi
  have hGl := sw.len
  have hGr := sw.lt
  have hGd := sw.nd
  have hst := w.st
  simp (implicitDefEqProofs := false) (dsimp := false) only [decide_eq_true hE, hE, spairs_call, hpre, hst, eval_nilI, ↓er_neq, ↓cdK_false, ↓cdK_not, ↓gdK_f, ↓gval_mk, ↓gvL_zero, ↓gvL_succ, ↓nthK_H, ↓nthH_zero, ↓nthH_succ, ↓aw_cond, ↓aw_seq, ↓aw_skip, ↓aw_reg, ↓Qseq_n, ↓ops_nil, ↓ops_cons, ↓ops_guard, ↓eval_tmp, ↓eval_func, ↓put_some, ↓bK_b, ↓lenK_l, ↓tK_t, ↓binE_i, ↓bi_neq, ↓op_move, ↓op_assign, ↓op_pick, ↓op_bin, ↓op_not, ↓op_extract, ↓op_len, ↓op_call, isD_d, ↓fnK_f, ↓call_H, ↓callK_H, ↓allT_nil, ↓allT_cons, ↓td_d, ↓st_tm, ↓sl28, ↓sl44, List.getD_cons_zero, List.getD_cons_succ, List.set_cons_zero, List.set_cons_succ, List.append_nil, List.length_map, List.all_cons, List.all_nil, Bool.true_and, Bool.and_self, Bool.true_or, Nat.reduceAdd, Nat.reduceSub, Nat.reduceMul, evK_go, reduceIte, decide_true, Bool.not_true, Nat.reduceEqDiff, Nat.reduceLT, and_self, true_and, Int.natCast_inj]
  refine OrH.l (OrH.l ⟨⟨hpre.1.2, hpre.2.2⟩, ?_⟩)
  rw [hdL, hdR, hdat]
  have hAl := hA.len
  have hBl := hBp.len
  clear hpre hpre2 hL hR w sw ok hdat hE hB hdL hdR hst
  generalize h.map Int.toNat = H at *
  generalize pairsR L R = G at *
  generalize toN L = A at *
  generalize toN R = B at *
  generalize L.length = n at *
  have hG62 : G.length < 2 ^ 62 := by omega
  have hH62 : H.length < 2 ^ 62 := by omega
  have hall : ((G.map Int.ofNat).all fun x => inB x 0 ((n : Int) - 1)) = true := by
    rw [List.all_eq_true]
    intro y hy
    obtain ⟨z, hz, rfl⟩ := List.mem_map.1 hy
    have := hGr z hz
    exact inW_iff.2 ⟨Int.natCast_nonneg z, by show (z : Int) ≤ _; omega⟩
  have htw : twice (G.map Int.ofNat) = false := by
    show (!decide (G.map Int.ofNat).Nodup) = false
    rw [decide_eq_true]
    · rfl
    · rw [List.Nodup, List.pairwise_map]
      exact hGd.imp fun {a b} h e => h (Int.ofNat.inj e)
  refine cdK_dec (fun hc => ?_) (fun hc => absurd (by omega) hc)
  simp (implicitDefEqProofs := false) (dsimp := false) only [decide_eq_true hc, hc, hAl, allRN_call, twiceN_call, hall, htw, ↓cdK_false, ↓gdK_f, ↓gval_mk, ↓gvL_zero, ↓gvL_succ, ↓aw_cond, ↓aw_seq, ↓aw_block, ↓aw_skip, ↓aw_loop, ↓aw_reg, ↓Qseq_n, ↓ops_nil, ↓ops_cons, ↓ops_guard, ↓eval_tmp, ↓eval_int, ↓eval_func, ↓put_some, ↓bK_b, ↓lenK_l, ↓binE_i, ↓bi_sub, ↓in_i64, ↓op_move, ↓op_assign, ↓op_pick, ↓op_bin, ↓op_not, ↓op_len, ↓op_call, isD_d, ↓fnK_f, ↓call_H, ↓callK_H, ↓allT_nil, ↓allT_cons, ↓td_d, ↓st_tm, ↓sl44, List.getD_cons_zero, List.getD_cons_succ, List.set_cons_zero, List.set_cons_succ, List.append_nil, List.length_map, List.all_cons, List.all_nil, Bool.true_and, Bool.and_self, Bool.true_or, Nat.reduceAdd, Nat.reduceSub, Nat.reduceMul, evK_go, reduceIte, decide_true, Bool.not_true, Nat.reduceEqDiff, Nat.reduceLT, and_self, true_and]
  refine ⟨by omega, ?_⟩
  (repeat refine OrH.l ?_)
  refine ⟨by omega, ?_⟩
  (repeat refine OrH.l ?_)
  refine ⟨by omega, ?_⟩
  refine loopW (fun i : Nat => { tm := slots 103 [(0, .d (.l (A.map lnR))), (1, .d (.l (B.map lnR))), (2, .d (.l (H.map nD))), (10, .d (.l (G.map nD))), (11, .d (I .i64 i))], bx := [], rw := [] })
    (fun i => i ≤ n) (fun i => n - i) 0 (by simp) ?_ ?_
  · refine Wkn.of [] [] ?_; simp (implicitDefEqProofs := false) (dsimp := false) only [List.set_cons_zero, List.set_cons_succ, Bool.and_self, Nat.reduceAdd, Nat.reduceSub, Nat.reduceMul, List.replicate, evK_go, reduceIte, Nat.reduceEqDiff, Nat.reduceLT, and_self, List.foldl_cons, List.foldl_nil, Int.cast_ofNat_Int, slots, wkL_nil, wkL_cons, wkB_nil, wkR_nil, wkV_j, wkV_d, frz_d, reduceCtorEq]
  · intro i hi
    simp (implicitDefEqProofs := false) (dsimp := false) only [slots, hAl, ↓aw_cond, ↓aw_seq, ↓aw_reg, ↓Qseq_n, ↓ops_nil, ↓ops_cons, ↓eval_tmp, ↓put_some, ↓bK_b, ↓lenK_l, ↓binE_i, ↓bi_lss, ↓op_move, ↓op_bin, ↓op_len, ↓sl44, List.getD_cons_zero, List.getD_cons_succ, List.set_cons_zero, List.set_cons_succ, List.length_map, Nat.reduceAdd, Nat.reduceSub, Nat.reduceMul, List.replicate, evK_go, reduceIte, Nat.reduceEqDiff, Nat.reduceLT, List.foldl_cons, List.foldl_nil, Int.ofNat_lt]
    refine cdK_dec (fun h1 => ?_) (fun h1 => ?_)
    · have c1 := b1 i h1
      have c2 := b2 i h1
      have hiA : i < A.length := by omega
      have hiB : i < B.length := by omega
      have hiH : i < H.length := by omega
      have hiG : i < G.length := by omega
      have m1 := hA.mem h1 (hHr _ (getD_mem hiH))
      have m2 := hA.mem h1 (hGr _ (getD_mem hiG))
      have m3 := hHm i h1
      have m4 := p1 i h1
      have m5 := hBp.mem h1 (show H.idxOf i < n by have := List.idxOf_lt_length_of_mem m3; omega)
      have m6 := hBp.mem h1 (show G.idxOf i < n by have := List.idxOf_lt_length_of_mem m4; omega)
      have l1 : (A.getD i default).length < 2 ^ 62 := by rw [(hA.row h1).1]; omega
      have l2 : (B.getD i default).length < 2 ^ 62 := by rw [(hBp.row h1).1]; omega
      simp (implicitDefEqProofs := false) (dsimp := false) only [hiA, hiH, hiG, h1, lnR, nD, placeN_callQ, m1, m2, l1, ↓atK_H, ↓atH_map, ↓aw_cond, ↓aw_seq, ↓aw_block, ↓aw_skip, ↓aw_draw, ↓Qseq_n, ↓eval_tmp, ↓eval_func, ↓put_some, ↓bK_b, ↓iK_i, ↓ev_move, ↓ev_load, ↓ev_bin, ↓ev_ia, ↓binE_i, ↓bi_lss, ↓ldK_q, ↓iaK_l, isD_d, ↓fnK_f, ↓callKQ_H, ↓allT_nil, ↓allT_cons, ↓td_d, ↓draw_H, ↓h_nil, ↓h_cons, ↓ldH_n, ↓q_call, ↓q_move, ↓q_load, ↓q_bin, ↓q_ia, ↓il_move, ↓il_load, ↓il_bin, ↓il_ia, ↓il_call, ↓cells_c, ↓cells_l, ↓hd_cons, ↓ty3, ↓ty28, ↓sl28, ↓sl44, List.getD_cons_zero, List.getD_cons_succ, List.set_cons_zero, List.set_cons_succ, List.append_nil, List.length_cons, List.length_nil, List.all_cons, List.all_nil, Bool.true_and, Bool.and_self, Bool.true_or, Nat.reduceAdd, Nat.reduceSub, Nat.reduceMul, Nat.zero_add, Int.toNat_natCast, evK_go, reduceIte, decide_true, Nat.reduceEqDiff, Nat.reduceLT, and_self, true_and, Int.zero_add, Int.ofNat_lt, Int.natCast_nonneg]
      refine OrH.l ⟨DrawH.of follows_mixed (by kernel_rfl), ?_⟩
      (repeat refine OrH.l ?_)
      refine cdK_dec (fun h2 => absurd h2 (by omega)) (fun h2 => ?_)
      simp (implicitDefEqProofs := false) (dsimp := false) only [hiB, lnR, placeN_callQ, m3, m4, m5, m6, l2, hH62, hG62, ↓atK_H, ↓atH_map, ↓aw_cond, ↓aw_seq, ↓aw_skip, ↓aw_draw, ↓Qseq_n, ↓eval_tmp, ↓eval_func, ↓put_some, ↓bK_b, ↓iK_i, ↓ev_move, ↓ev_load, ↓ev_bin, ↓ev_ia, ↓binE_i, ↓bi_gtr, ↓ldK_q, ↓iaK_l, isD_d, ↓fnK_f, ↓callKQ_H, ↓allT_nil, ↓allT_cons, ↓td_d, ↓draw_H, ↓h_nil, ↓h_cons, ↓ldH_n, ↓q_call, ↓q_move, ↓q_load, ↓q_bin, ↓q_ia, ↓il_move, ↓il_load, ↓il_bin, ↓il_ia, ↓il_call, ↓cells_l, ↓hd_cons, ↓ty28, ↓sl44, List.getD_cons_zero, List.getD_cons_succ, List.set_cons_zero, List.set_cons_succ, List.append_nil, List.length_cons, List.length_nil, List.all_cons, List.all_nil, Bool.true_and, Bool.and_self, Bool.true_or, Nat.reduceAdd, Nat.reduceSub, Nat.reduceMul, Nat.zero_add, Int.toNat_natCast, evK_go, reduceIte, Nat.reduceEqDiff, Nat.reduceLT, and_self, true_and, Int.zero_add, Int.ofNat_lt, Int.natCast_nonneg]
      refine OrH.l ⟨DrawH.of follows_mixed (by kernel_rfl), ?_⟩
      (repeat refine OrH.l ?_)
      refine cdK_dec (fun h3 => absurd h3 (by omega)) (fun h3 => ?_)
      simp (implicitDefEqProofs := false) (dsimp := false) only [↓aw_skip, ↓aw_reg, ↓Qseq_n, ↓Qblk_n, ↓ops_nil, ↓ops_cons, ↓eval_tmp, ↓eval_int, ↓put_some, ↓binE_i, ↓bi_add, ↓in_i64, ↓op_move, ↓op_assign, ↓op_bin, List.getD_cons_zero, List.getD_cons_succ, List.set_cons_zero, List.set_cons_succ, Nat.reduceAdd, Nat.reduceSub, Nat.reduceMul, evK_go, reduceIte, Nat.reduceEqDiff, Nat.reduceLT]
      refine ⟨by omega, i + 1, by omega, by omega, ?_⟩
      refine Wkn.of [] [] ?_; simp (implicitDefEqProofs := false) (dsimp := false) only [List.set_cons_zero, List.set_cons_succ, Bool.and_self, Nat.reduceAdd, Nat.reduceSub, Nat.reduceMul, List.replicate, evK_go, reduceIte, Nat.reduceEqDiff, Nat.reduceLT, and_self, List.foldl_cons, List.foldl_nil, Int.cast_ofNat_Int, Int.natCast_add, slots, wkL_nil, wkL_cons, wkB_nil, wkR_nil, wkV_j, wkV_d, frz_d, reduceCtorEq]
    · obtain rfl : i = n := by omega
      simp (implicitDefEqProofs := false) (dsimp := false) only [↓aw_seq, ↓aw_exit, ↓aw_ret, ↓aw_reg, ↓Qseq_n, ↓Qseq_x, ↓Qblk_x, ↓Qret_r, ↓ops_nil, ↓ops_cons, ↓eval_tmp, ↓eval_bool, ↓put_some, ↓op_assign, ↓td_d, ↓ret_1, List.getD_cons_zero, List.getD_cons_succ, List.set_cons_zero, List.set_cons_succ, Nat.reduceAdd, Nat.reduceSub, Nat.reduceMul, evK_go, reduceIte, decide_false, Nat.reduceEqDiff, Nat.reduceLT, Nat.lt_irrefl]
end Go.Proofs

namespace Go.Proofs
open Go.Aw
set_option linter.unusedSimpArgs false
set_option maxRecDepth 10000
set_option maxHeartbeats 2000000
theorem stE_zero {L R : List (List Int)} : stE L R = 0 ↔ L.length ≤ 6 ∧ L.length = R.length ∧ firstE (rowE L.length) L = 0 ∧ firstE (rowE L.length) R = 0 := by
  unfold stE
  by_cases h1 : 6 < L.length ∨ 6 < R.length
  · rw [if_pos h1]
    exact ⟨fun h => by omega, fun h => by omega⟩
  rw [if_neg h1]
  by_cases h2 : L.length ≠ R.length
  · rw [if_pos h2]
    exact ⟨fun h => by omega, fun h => absurd h.2.1 h2⟩
  rw [if_neg h2]
  by_cases h3 : firstE (rowE L.length) L = 0
  · rw [if_pos h3]
    exact ⟨fun h => ⟨by omega, by omega, h3, h⟩, fun h => h.2.2.2⟩
  · rw [if_neg h3]
    exact ⟨fun h => absurd h h3, fun h => absurd h.2.2.1 h3⟩
theorem st_symm {L R : List (List Int)} : stE L R = 0 ↔ stE R L = 0 := by
  rw [stE_zero, stE_zero]
  constructor
  · rintro ⟨h1, h2, h3, h4⟩; rw [h2] at h1 h3 h4; exact ⟨by omega, h2.symm, h4, h3⟩
  · rintro ⟨h1, h2, h3, h4⟩; rw [h2] at h1 h3 h4; exact ⟨by omega, h2.symm, h4, h3⟩
theorem stb_turn {n : Nat} {A B : List (List Nat)} {h g : Nat → Nat} (hs : Stb n A B h) (hg : ∀ j, j < n → g j < n ∧ h (g j) = j) : Stb n B A g := by
  intro j l hj hl ⟨h1, h2⟩
  obtain ⟨a1, a2⟩ := hg j hj
  obtain ⟨b1, b2⟩ := hg l hl
  refine hs (g l) (g j) b1 a1 ⟨?_, ?_⟩
  · rw [a2, b2]; exact h2
  · rw [a2]; exact h1
def firstL (A : List (List Nat)) (k : Nat) : List Nat := (List.range k).map fun i => (A.getD i default).getD 0 default
theorem firstL_len (A : List (List Nat)) (k : Nat) : (firstL A k).length = k := by simp [firstL]
theorem firstL_succ (A : List (List Nat)) (k : Nat) : firstL A (k + 1) = firstL A k ++ [(A.getD k default).getD 0 default] := by simp [firstL, List.range_succ]
theorem firstL_get (A : List (List Nat)) {n i : Nat} (hi : i < n) : (firstL A n).getD i default = (A.getD i default).getD 0 default := by
  unfold firstL; rw [List.getD_eq_getElem?_getD, List.getElem?_map, List.getElem?_range hi]; rfl
theorem list_eq {n : Nat} {G H : List Nat} (hg : G.length = n) (hh : H.length = n) (h : ∀ i, i < n → G.getD i default = H.getD i default) : G = H := by
  refine List.ext_getElem (by omega) fun i h1 h2 => ?_
  have := h i (by omega)
  rwa [List.getD_eq_getElem?_getD, List.getElem?_eq_getElem h1, List.getD_eq_getElem?_getD, List.getElem?_eq_getElem h2] at this
theorem gale_first {n : Nat} {A B : List (List Nat)} (hA : Prefs n A) (hB : Prefs n B) (hd : (firstL A n).Nodup) : gale n A B = firstL A n := by
  have hfl := firstL_len A n
  have hlt : ∀ y ∈ firstL A n, y < n := fun y hy => by
    obtain ⟨i, hi, rfl⟩ := List.mem_map.1 hy
    have hi := List.mem_range.1 hi
    exact hA.get_lt hi (by omega)
  obtain ⟨_, _, hp⟩ := list_pairs hfl hd hlt
  have hr0 : ∀ i, i < n → rk A i ((firstL A n).getD i default) = 0 := fun i hi => by
    rw [firstL_get A hi]
    exact hA.rk_get hi (by omega)
  have hs : Stb n A B fun i => (firstL A n).getD i default := fun i k hi hk h => by
    have h1 : rk A i ((firstL A n).getD k default) < rk A i ((firstL A n).getD i default) := h.1
    rw [hr0 i hi] at h1
    omega
  obtain ⟨g1, g2, _, g4⟩ := gale_spec hA hB
  refine list_eq g1 hfl fun i hi => ?_
  have h1 : rk A i ((gale n A B).getD i default) ≤ rk A i ((firstL A n).getD i default) := g4 _ hp hs i hi
  rw [hr0 i hi] at h1
  exact hA.rk_inj hi (g2.lt i hi) (hp.lt i hi) (by rw [hr0 i hi]; omega)
theorem gale_same {n : Nat} {A B : List (List Nat)} {H : List Nat} (hA : Prefs n A) (hB : Prefs n B) (hH : H.length = n) (hd : H.Nodup) (hr : ∀ y ∈ H, y < n) (hs : Stb n A B fun i => H.getD i default)
    (hsame : ∀ i, i < n → (gale n B A).getD ((gale n A B).getD i default) default = i) : H = gale n A B := by
  obtain ⟨m1, m2, m3⟩ := list_pairs hH hd hr
  obtain ⟨g1, g2, g3, g4⟩ := gale_spec hA hB
  obtain ⟨r1, r2, r3, r4⟩ := gale_spec hB hA
  have hHi : ∀ j, j < n → H.idxOf j < n := fun j hj => by have := List.idxOf_lt_length_of_mem (m1 j hj); omega
  have hp : Pairs n fun j => H.idxOf j := ⟨hHi, fun i k hi hk e => by
    have e : H.idxOf i = H.idxOf k := e
    rw [← m2 i hi, ← m2 k hk, e]⟩
  have ht : Stb n B A fun j => H.idxOf j := stb_turn hs fun j hj => ⟨hHi j hj, m2 j hj⟩
  refine list_eq hH g1 fun i hi => ?_
  -- whom i has in the end
  have hj := g2.lt i hi
  have a1 : rk B ((gale n A B).getD i default) ((gale n B A).getD ((gale n A B).getD i default) default) ≤ rk B ((gale n A B).getD i default) (H.idxOf ((gale n A B).getD i default)) := r4 _ hp ht _ hj
  have a2 := gale_worst hA hB m3 hs hi (hHi _ hj) (m2 _ hj)
  rw [hsame i hi] at a1
  simp (implicitDefEqProofs := false) (dsimp := false) only [m2 _ hj] at a2
  have a3 := hB.rk_inj hj hi (hHi _ hj) (by omega)
  have a4 := m2 _ hj
  rw [← a3] at a4
  exact a4
theorem intsM_spec (a b : List Nat) (hpre : a.length < 2 ^ 62) : FnD Try.prog 44 [.l (a.map nD), .l (b.map nD)] (Bo (decide (a.map Int.ofNat = b.map Int.ofNat))) := by
  have h := ints_spec (a.map Int.ofNat) (b.map Int.ofNat) (by simpa using hpre)
  rw [← nDI, ← nDI] at h
  exact h
theorem intsM_call (a b : List Nat) (pure : Bool) (σ : St) (dst : Option Tmp) (K : St → Prop) : CallH Try.prog 44 [.l (a.map nD), .l (b.map nD)] pure σ dst (.mk : Hid K) = OrH ((a.length < 2 ^ 62) ∧ (pure || D.flat (Bo (decide (a.map Int.ofNat = b.map Int.ofNat)))) = true ∧ evK (σ.put dst (.d (Bo (decide (a.map Int.ofNat = b.map Int.ofNat))))) (.mk : Hid K)) (.mk : Hid (CallH Try.prog 44 [.l (a.map nD), .l (b.map nD)] pure σ dst (.mk : Hid K))) := CallH.eq (intsM_spec a b) pure σ dst K
theorem intsM_callQ (a b : List Nat) (pure : Bool) (C : V → Prop) : CallQ Try.prog 44 [.l (a.map nD), .l (b.map nD)] pure (.mk : Hid C) = OrH ((a.length < 2 ^ 62) ∧ (pure || D.flat (Bo (decide (a.map Int.ofNat = b.map Int.ofNat)))) = true ∧ evK (V.d (Bo (decide (a.map Int.ofNat = b.map Int.ofNat)))) (.mk : Hid C)) (.mk : Hid (CallQ Try.prog 44 [.l (a.map nD), .l (b.map nD)] pure (.mk : Hid C))) := CallQ.eq (intsM_spec a b) pure C
def sameB (r G : List Nat) (k : Nat) : Bool := (List.range k).all fun i => decide (r.getD (G.getD i default) default = i)
theorem sameB_succ (r G : List Nat) (k : Nat) : sameB r G (k + 1) = (sameB r G k && decide (r.getD (G.getD k default) default = k)) := by simp [sameB, List.range_succ]
theorem lStableSame_spec (L R : List (List Int)) (h : List Int) (hL : L.length < 2 ^ 43 ∧ ∀ x ∈ L, x.length < 2 ^ 44) (hR : R.length < 2 ^ 43 ∧ ∀ x ∈ R, x.length < 2 ^ 44) (hh : h.length < 2 ^ 44) :
    FnD Try.prog 14 [.l (L.map liD), .l (R.map liD), .l (h.map (I .i64))] (Bo true) := by
  have hpre : (L.length < 2 ^ 62 ∧ ∀ x ∈ L, x.length < 2 ^ 62) ∧ R.length < 2 ^ 62 ∧ ∀ x ∈ R, x.length < 2 ^ 62 := ⟨⟨by omega, fun x hx => by have := hL.2 x hx; omega⟩, by omega, fun x hx => by have := hR.2 x hx; omega⟩
  have hpre3 : (R.length < 2 ^ 62 ∧ ∀ x ∈ R, x.length < 2 ^ 62) ∧ L.length < 2 ^ 62 ∧ ∀ x ∈ L, x.length < 2 ^ 62 := ⟨hpre.2, hpre.1⟩
  have hpre2 : ((L.length < 2 ^ 62 ∧ ∀ x ∈ L, x.length < 2 ^ 62) ∧ R.length < 2 ^ 62 ∧ ∀ x ∈ R, x.length < 2 ^ 62) ∧ h.length < 2 ^ 62 := ⟨hpre, by omega⟩
  refine FnD.go Try.func14 rfl rfl Try.results14 Try.ntmps14 ?_
  simp (implicitDefEqProofs := false) (dsimp := false) only [↓aw_seq, ↓aw_reg, ↓Qseq_n, ↓ops_nil, ↓ops_cons, ↓eval_bool, ↓eval_func, ↓put_some, ↓op_assign, ↓op_call, isD_d, ↓fnK_f, ↓call_H, ↓callK_H, ↓allT_nil, ↓td_d, List.set_cons_zero, List.set_cons_succ, List.cons_append, List.nil_append, List.append_nil, List.map_cons, List.map_nil, List.length_cons, List.length_nil, List.all_nil, Bool.and_self, Nat.reduceAdd, Nat.reduceSub, Nat.reduceMul, Nat.zero_add, List.replicate, evK_go, reduceIte, Nat.reduceEqDiff, Nat.reduceLT, and_self, Int.zero_add]
  simp (implicitDefEqProofs := false) (dsimp := false) only [sfact2_call, spairs_call, hpre, eval_nilI, ↓er_neq, ↓cdK_false, ↓cdK_not, ↓gdK_f, ↓gval_mk, ↓gvL_zero, ↓gvL_succ, ↓nthK_H, ↓nthH_zero, ↓nthH_succ, ↓aw_cond, ↓aw_seq, ↓aw_skip, ↓aw_reg, ↓Qseq_n, ↓ops_nil, ↓ops_cons, ↓ops_guard, ↓eval_tmp, ↓eval_func, ↓put_some, ↓bK_b, ↓tK_t, ↓op_move, ↓op_assign, ↓op_bin, ↓op_not, ↓op_extract, ↓op_call, isD_d, ↓fnK_f, ↓call_H, ↓callK_H, ↓allT_nil, ↓allT_cons, ↓td_d, ↓st_tm, List.getD_cons_zero, List.getD_cons_succ, List.set_cons_zero, List.set_cons_succ, List.append_nil, List.all_cons, List.all_nil, Bool.true_and, Bool.and_self, Bool.true_or, Nat.reduceAdd, Nat.reduceSub, Nat.reduceMul, evK_go, reduceIte, Bool.not_true, Nat.reduceEqDiff, Nat.reduceLT, and_self, true_and]
  refine OrH.l (OrH.l (OrH.l (OrH.l ⟨⟨hpre.1.2, hpre.2.2⟩, OrH.l (OrH.l ⟨⟨hpre.2.2, hpre.1.2⟩, ?_⟩)⟩)))
  refine cdK_dec (fun hc => ?_) (fun hc => ?_)
  rotate_left
  · have hc2 : ¬ stE R L = 0 := fun e => hc (st_symm.2 e)
    simp (implicitDefEqProofs := false) (dsimp := false) only [decide_eq_false hc, decide_eq_false hc2, hc, hc2, eval_nilI, ↓er_neq, ↓cdK_true, ↓gdK_t, ↓gdK_f, ↓gval_mk, ↓gvL_zero, ↓gvL_succ, ↓aw_cond, ↓aw_seq, ↓aw_ret, ↓aw_reg, ↓Qseq_n, ↓Qseq_r, ↓Qret_r, ↓ops_nil, ↓ops_cons, ↓ops_guard, ↓eval_tmp, ↓eval_bool, ↓put_some, ↓bK_b, ↓op_move, ↓op_assign, ↓op_pick, ↓op_bin, ↓td_d, ↓ret_1, ↓st_tm, List.getD_cons_zero, List.getD_cons_succ, List.set_cons_zero, List.set_cons_succ, Nat.reduceAdd, Nat.reduceSub, Nat.reduceMul, evK_go, reduceIte, decide_false, Bool.not_false, Nat.reduceEqDiff, Nat.reduceLT]
  have hc2 := st_symm.1 hc
  have ok := st_ok hc
  have sw := stW hc
  have sw2 := stW hc2
  have e1 : pairsR L R = gale L.length (toN L) (toN R) := if_pos hc
  have hRL : R.length = L.length := ok.lenR
  have e2 : pairsR R L = gale L.length (toN R) (toN L) := by rw [← hRL]; exact if_pos hc2
  have g1 := sw.len
  have g2 := sw2.len
  rw [hRL] at g2
  simp (implicitDefEqProofs := false) (dsimp := false) only [decide_eq_true hc, hc, hc2, g1, g2, eval_nilI, ↓er_neq, ↓cdK_false, ↓gdK_f, ↓gval_mk, ↓gvL_zero, ↓gvL_succ, ↓aw_cond, ↓aw_seq, ↓aw_block, ↓aw_skip, ↓aw_loop, ↓aw_reg, ↓Qseq_n, ↓ops_nil, ↓ops_cons, ↓ops_guard, ↓eval_tmp, ↓eval_int, ↓eval_bool, ↓eval_nil, ↓put_some, ↓bK_b, ↓lenK_l, ↓binE_i, ↓bi_neq, ↓op_move, ↓op_assign, ↓op_pick, ↓op_bin, ↓op_len, ↓st_tm, ↓sl28, ↓sl44, List.getD_cons_zero, List.getD_cons_succ, List.set_cons_zero, List.set_cons_succ, List.length_map, Nat.reduceAdd, Nat.reduceSub, Nat.reduceMul, evK_go, reduceIte, decide_true, Bool.not_true, Nat.reduceEqDiff, Nat.reduceLT]
  have hdL := ok.dL
  have hA := ok.pL
  have hB := ok.pR
  have hn6 := ok.hi
  have hGr := sw.lt
  have hAl := hA.len
  generalize hn : L.length = n at *
  rw [hdL]
  refine loopW (fun i : Nat => { tm := slots 124 [(0, .d (.l ((toN L).map lnR))), (1, .d (.l (R.map liD))), (2, .d (.l (h.map (I .i64)))), (8, .d (.l ((pairsR L R).map nD))), (10, .d (.l ((pairsR R L).map nD))), (12, .o 0 0 i), (13, .d (Bo (sameB (pairsR R L) (pairsR L R) i))), (14, .d (I .i64 i))], bx := [], rw := [some ⟨1, (firstL (toN L) i).map nD⟩] })
    (fun i => i ≤ n) (fun i => n - i) 0 (by simp) ?_ ?_
  · refine Wkn.of [] [none] ?_
    simp (implicitDefEqProofs := false) (dsimp := false) only [firstL, sameB, List.range_zero, List.map_nil, List.all_nil, ↓row_xs, List.set_cons_zero, List.set_cons_succ, List.map_nil, List.all_nil, Bool.and_self, Nat.reduceAdd, Nat.reduceSub, Nat.reduceMul, List.replicate, evK_go, reduceIte, Nat.reduceEqDiff, Nat.reduceLT, and_self, List.foldl_cons, List.foldl_nil, Int.cast_ofNat_Int, slots, wkL_nil, wkL_cons, wkB_nil, wkR_nil, wkR_new, wkV_j, wkV_d, nlK_nl, wkV_o, frz_d, oK_zn, reduceCtorEq]
  · intro i hi
    have hfl := firstL_len (toN L) i
    have hfs := firstL_succ (toN L) i
    have hss := sameB_succ (pairsR R L) (pairsR L R) i
    simp (implicitDefEqProofs := false) (dsimp := false) only [slots, hAl, ↓aw_cond, ↓aw_seq, ↓aw_reg, ↓Qseq_n, ↓ops_nil, ↓ops_cons, ↓eval_tmp, ↓put_some, ↓bK_b, ↓lenK_l, ↓binE_i, ↓bi_lss, ↓op_move, ↓op_bin, ↓op_len, ↓sl44, List.getD_cons_zero, List.getD_cons_succ, List.set_cons_zero, List.set_cons_succ, List.length_map, Nat.reduceAdd, Nat.reduceSub, Nat.reduceMul, List.replicate, evK_go, reduceIte, Nat.reduceEqDiff, Nat.reduceLT, List.foldl_cons, List.foldl_nil, Int.ofNat_lt]
    refine cdK_dec (fun h1 => ?_) (fun h1 => ?_)
    · have hiA : i < (toN L).length := by omega
      have hiG : i < (pairsR L R).length := by omega
      have hx0 : 0 < ((toN L).getD i default).length := by rw [(hA.row h1).1]; omega
      have hGi := hGr _ (getD_mem hiG)
      have hGr2 : (pairsR L R).getD i default < (pairsR R L).length := by omega
      have hin : inB ((pairsR L R).getD i default : Int) 0 ((n : Int) - 1) = true := inW_iff.2 ⟨by omega, by omega⟩
      cases hb : sameB (pairsR R L) (pairsR L R) i with
      | false =>
        rw [hb, Bool.false_and] at hss
        simp (implicitDefEqProofs := false) (dsimp := false) only [hiA, hx0, lnR, nD, ↓cdK_false, ↓gdK_t, ↓gval_mk, ↓gvL_zero, ↓gvL_succ, ↓optK_some, ↓rwK_mk_, ↓atK_H, ↓atH_map, ↓aw_seq, ↓aw_block, ↓aw_skip, ↓aw_reg, ↓Qseq_n, ↓Qblk_n, ↓ops_nil, ↓ops_cons, ↓ops_guard, ↓eval_tmp, ↓eval_int, ↓eval_bool, ↓put_some, ↓bK_b, ↓iK_i, ↓dK_d, ↓binE_i, ↓bi_add, ↓in_i64, ↓ldK_q, ↓iaK_l, ↓op_move, ↓op_assign, ↓op_pick, ↓op_load, ↓op_bin, ↓op_ia, ↓op_append, ↓allD_nil, ↓allD_cons, ↓app_mk, ↓st_tm, ↓row_sz, ↓row_xs, kill_d, kill_j, kill_o, ↓cells_c, ↓cells_l, ↓one_i, ↓ap_, ↓ap_o, ↓src_l, ↓bs_, ↓op_bs, ↓bsL_f, ↓stored_mk, ↓sl_nil, ↓sl_cons, ↓sT_move, ↓sT_assign, ↓sT_load, ↓sT_ia, ↓sT_bs, ↓sT_call, ↓vsz_int, ↓inO_1, ↓fm_nil, ↓fm_cons, ↓hd_cons, ↓ty3, ↓zb3, ↓ty28, ↓sl28, ↓sl44, List.getD_cons_zero, List.getD_cons_succ, List.set_cons_zero, List.set_cons_succ, List.map_cons, List.map_nil, List.length_cons, List.length_nil, List.length_map, List.all_cons, List.all_nil, Bool.true_and, Bool.and_self, Bool.or_false, Nat.reduceAdd, Nat.reduceSub, Nat.reduceMul, Nat.zero_add, Int.toNat_natCast, Int.toNat_zero, evK_go, reduceIte, Nat.reduceEqDiff, Nat.reduceLT, and_self, true_and, Int.zero_add, List.drop_zero, Int.natCast_nonneg]
        refine ⟨by omega, by decide, ⟨fun _ => trivial, by omega, by omega, by omega⟩, by omega, i + 1, by omega, by omega, ?_⟩
        refine Wkn.of [] [some 0] ?_
        simp (implicitDefEqProofs := false) (dsimp := false) only [hfs, hss, List.map_append, nD, List.getD_cons_zero, List.set_cons_zero, List.set_cons_succ, List.map_cons, List.map_nil, Bool.and_self, Nat.reduceAdd, Nat.reduceSub, Nat.reduceMul, List.replicate, evK_go, reduceIte, Nat.reduceEqDiff, Nat.reduceLT, and_self, List.foldl_cons, List.foldl_nil, Int.cast_ofNat_Int, Int.natCast_add, slots, wkL_nil, wkL_cons, wkB_nil, wkR_nil, wkR_some, wkV_j, wkV_d, wkV_o, frz_d, oK_zs, reduceCtorEq]
      | true =>
        rw [hb, Bool.true_and] at hss
        simp (implicitDefEqProofs := false) (dsimp := false) only [hx0, hGi, g1, g2, hAl, h1, in2_call, hin, lnR, nD, ↓cdK_true, ↓gdK_t, ↓gval_mk, ↓gvL_zero, ↓gvL_succ, ↓optK_some, ↓rwK_mk_, ↓atK_H, ↓atH_map, ↓aw_seq, ↓aw_block, ↓aw_skip, ↓aw_reg, ↓Qseq_n, ↓Qblk_n, ↓ops_nil, ↓ops_cons, ↓ops_guard, ↓eval_tmp, ↓eval_int, ↓eval_func, ↓put_some, ↓bK_b, ↓iK_i, ↓dK_d, ↓lenK_l, ↓binE_i, ↓bi_add, ↓bi_sub, ↓bi_eql, ↓in_i64, ↓ldK_q, ↓iaK_l, ↓op_move, ↓op_assign, ↓op_pick, ↓op_load, ↓op_bin, ↓op_ia, ↓op_len, ↓op_append, ↓op_call, isD_d, ↓fnK_f, ↓call_H, ↓callK_H, ↓allT_nil, ↓allT_cons, ↓allD_nil, ↓allD_cons, ↓td_d, ↓app_mk, ↓st_tm, ↓row_sz, ↓row_xs, kill_d, kill_j, kill_o, ↓cells_c, ↓cells_l, ↓one_i, ↓ap_, ↓ap_o, ↓src_l, ↓bs_, ↓op_bs, ↓bsL_f, ↓stored_mk, ↓sl_nil, ↓sl_cons, ↓sT_move, ↓sT_assign, ↓sT_load, ↓sT_ia, ↓sT_bs, ↓sT_call, ↓vsz_int, ↓inO_1, ↓fm_nil, ↓fm_cons, ↓hd_cons, ↓ty3, ↓zb3, ↓ty28, ↓sl28, ↓sl44, List.getD_cons_zero, List.getD_cons_succ, List.set_cons_zero, List.set_cons_succ, List.append_nil, List.map_cons, List.map_nil, List.length_cons, List.length_nil, List.length_map, List.all_cons, List.all_nil, Bool.true_and, Bool.and_self, Bool.true_or, Bool.or_false, Nat.reduceAdd, Nat.reduceSub, Nat.reduceMul, Nat.zero_add, Int.toNat_natCast, Int.toNat_zero, evK_go, reduceIte, decide_true, Nat.reduceEqDiff, Nat.reduceLT, and_self, true_and, Int.zero_add, List.drop_zero, Int.natCast_nonneg, Int.natCast_inj]
        refine ⟨by omega, by decide, ⟨fun _ => trivial, by omega, by omega, by omega⟩, by omega, ?_⟩
        (repeat refine OrH.l ?_)
        refine ⟨by omega, i + 1, by omega, by omega, ?_⟩
        refine Wkn.of [] [some 0] ?_
        simp (implicitDefEqProofs := false) (dsimp := false) only [hfs, hss, List.map_append, nD, List.getD_cons_zero, List.set_cons_zero, List.set_cons_succ, List.map_cons, List.map_nil, Bool.and_self, Nat.reduceAdd, Nat.reduceSub, Nat.reduceMul, List.replicate, evK_go, reduceIte, Nat.reduceEqDiff, Nat.reduceLT, and_self, List.foldl_cons, List.foldl_nil, Int.cast_ofNat_Int, Int.natCast_add, slots, wkL_nil, wkL_cons, wkB_nil, wkR_nil, wkR_some, wkV_j, wkV_d, wkV_o, frz_d, oK_zs, reduceCtorEq]
    · obtain rfl : i = n := by omega
      have hfl := firstL_len (toN L) i
      have htk : List.take i ((firstL (toN L) i).map nD) = (firstL (toN L) i).map nD := List.take_of_length_le (by rw [List.length_map]; omega)
      have hF62 : (firstL (toN L) i).length < 2 ^ 62 := by omega
      have hG62 : (pairsR L R).length < 2 ^ 62 := by omega
      have hfirst : twice ((firstL (toN L) i).map Int.ofNat) = false → decide ((pairsR L R).map Int.ofNat = (firstL (toN L) i).map Int.ofNat) = true := fun ht => by
        have ht : (!decide ((firstL (toN L) i).map Int.ofNat).Nodup) = false := ht
        have hnd : ((firstL (toN L) i).map Int.ofNat).Nodup := by simpa using ht
        rw [List.Nodup, List.pairwise_map] at hnd
        rw [e1, gale_first hA hB (hnd.imp fun {a b} h e => h (by rw [e]))]
        exact decide_eq_true rfl
      have hlast : sameB (pairsR R L) (pairsR L R) i = true → isE L R h = 0 → isB L R h = true → h.map (I .i64) = (pairsR L R).map nD := fun h1 h2 h3 => by
        have w := hW h2 h3
        rw [hn] at w
        have hs : ∀ k, k < i → (pairsR R L).getD ((pairsR L R).getD k default) default = k := fun k hk => by
          have := List.all_eq_true.1 h1 k (by simp; omega)
          simpa using this
        rw [e1, e2] at hs
        rw [w.dat, gale_same hA hB w.len w.nd w.lt w.sb hs, e1]
      rw [← hdL]
      cases ht : twice ((firstL (toN L) i).map Int.ofNat) with
      | false =>
        simp (implicitDefEqProofs := false) (dsimp := false) only [htk, twiceN_call, hF62, ht, intsM_call, hG62, hfirst ht, sis_call, hpre2, ↓cdK_true, ↓cdK_false, ↓cdK_not, ↓gdK_t, ↓gdK_f, ↓gval_mk, ↓gvL_zero, ↓gvL_succ, ↓optK_some, ↓rwK_mk_, ↓nthK_H, ↓nthH_zero, ↓nthH_succ, ↓aw_cond, ↓aw_seq, ↓aw_exit, ↓aw_skip, ↓aw_reg, ↓Qseq_n, ↓Qseq_x, ↓Qblk_x, ↓ops_nil, ↓ops_cons, ↓ops_guard, ↓eval_tmp, ↓eval_func, ↓put_some, ↓bK_b, ↓tK_t, ↓op_move, ↓op_assign, ↓op_pick, ↓op_not, ↓op_extract, ↓op_call, isD_d, isD_o, ↓fnK_f, ↓call_H, ↓callK_H, ↓allT_nil, ↓allT_cons, ↓td_d, ↓td_o, ↓st_tm, ↓row_xs, List.getD_cons_zero, List.getD_cons_succ, List.set_cons_zero, List.set_cons_succ, List.append_nil, List.all_cons, List.all_nil, Bool.and_true, Bool.true_and, Bool.and_self, Bool.and_false, Bool.true_or, Bool.false_or, Nat.reduceAdd, Nat.reduceSub, Nat.reduceMul, evK_go, reduceIte, decide_false, Bool.not_true, Bool.not_false, Nat.reduceEqDiff, Nat.reduceLT, and_self, true_and, and_true, Nat.lt_irrefl, List.drop_zero]
        (repeat refine OrH.l ?_)
        refine ⟨rfl, ?_⟩
        (repeat refine OrH.l ?_)
        refine ⟨rfl, ?_⟩
        (repeat refine OrH.l ?_)
        refine ⟨⟨⟨by omega, hpre.1.2⟩, hpre.2.2⟩, ?_⟩
        refine cdK_split (fun hS => ?_) (fun hS => ?_)
        · by_cases hE : isE L R h = 0
          · cases hBb : isB L R h with
            | false =>
              simp (implicitDefEqProofs := false) (dsimp := false) only [hS, hE, eval_nilI, ↓er_neq, ↓cdK_true, ↓cdK_false, ↓gdK_f, ↓gval_mk, ↓gvL_zero, ↓gvL_succ, ↓aw_ret, ↓Qseq_n, ↓Qret_r, ↓ops_nil, ↓ops_cons, ↓ops_guard, ↓eval_tmp, ↓eval_bool, ↓put_some, ↓bK_b, ↓op_move, ↓op_assign, ↓op_pick, ↓op_bin, ↓op_not, ↓td_d, ↓ret_1, ↓st_tm, List.getD_cons_zero, List.getD_cons_succ, List.set_cons_zero, List.set_cons_succ, Nat.reduceAdd, Nat.reduceSub, Nat.reduceMul, evK_go, reduceIte, decide_true, Bool.not_true, Bool.not_false, Nat.reduceEqDiff, Nat.reduceLT]
            | true =>
              have hl := hlast hS hE hBb
              have hdd : decide ((pairsR L R).map Int.ofNat = (pairsR L R).map Int.ofNat) = true := decide_eq_true rfl
              simp (implicitDefEqProofs := false) (dsimp := false) only [hS, hE, hl, intsM_call, hG62, eval_nilI, ↓er_neq, ↓cdK_false, ↓gdK_f, ↓gval_mk, ↓gvL_zero, ↓gvL_succ, ↓aw_ret, ↓Qseq_n, ↓Qret_r, ↓ops_nil, ↓ops_cons, ↓ops_guard, ↓eval_tmp, ↓eval_func, ↓put_some, ↓bK_b, ↓op_move, ↓op_assign, ↓op_pick, ↓op_bin, ↓op_not, ↓op_call, ↓orH_T, isD_d, ↓fnK_f, ↓call_H, ↓callK_H, ↓allT_nil, ↓allT_cons, ↓td_d, ↓ret_1, ↓st_tm, List.getD_cons_zero, List.getD_cons_succ, List.set_cons_zero, List.set_cons_succ, List.append_nil, List.all_cons, List.all_nil, Bool.and_self, Bool.true_or, Nat.reduceAdd, Nat.reduceSub, Nat.reduceMul, evK_go, reduceIte, decide_true, Bool.not_true, Nat.reduceEqDiff, Nat.reduceLT, and_self]
          · have hBb := isB_not hE
            simp (implicitDefEqProofs := false) (dsimp := false) only [hS, decide_eq_false hE, hE, hBb, eval_nilI, ↓er_neq, ↓cdK_true, ↓cdK_false, ↓gdK_f, ↓gval_mk, ↓gvL_zero, ↓gvL_succ, ↓aw_ret, ↓Qseq_n, ↓Qret_r, ↓ops_nil, ↓ops_cons, ↓ops_guard, ↓eval_tmp, ↓eval_bool, ↓put_some, ↓bK_b, ↓op_move, ↓op_assign, ↓op_pick, ↓op_bin, ↓td_d, ↓ret_1, ↓st_tm, List.getD_cons_zero, List.getD_cons_succ, List.set_cons_zero, List.set_cons_succ, Nat.reduceAdd, Nat.reduceSub, Nat.reduceMul, evK_go, reduceIte, decide_false, Bool.not_true, Bool.not_false, Nat.reduceEqDiff, Nat.reduceLT]
        · simp (implicitDefEqProofs := false) (dsimp := false) only [hS, ↓cdK_true, ↓gdK_f, ↓gval_mk, ↓gvL_zero, ↓gvL_succ, ↓aw_ret, ↓Qseq_n, ↓Qret_r, ↓ops_nil, ↓ops_cons, ↓ops_guard, ↓eval_tmp, ↓eval_bool, ↓put_some, ↓bK_b, ↓op_move, ↓op_assign, ↓op_pick, ↓td_d, ↓ret_1, ↓st_tm, List.getD_cons_zero, List.getD_cons_succ, List.set_cons_zero, List.set_cons_succ, Nat.reduceAdd, Nat.reduceSub, Nat.reduceMul, evK_go, reduceIte, Bool.not_false, Nat.reduceEqDiff, Nat.reduceLT]
      | true =>
        simp (implicitDefEqProofs := false) (dsimp := false) only [htk, twiceN_call, hF62, ht, sis_call, hpre2, ↓cdK_false, ↓cdK_not, ↓gdK_t, ↓gdK_f, ↓gval_mk, ↓gvL_zero, ↓gvL_succ, ↓optK_some, ↓rwK_mk_, ↓nthK_H, ↓nthH_zero, ↓nthH_succ, ↓aw_cond, ↓aw_seq, ↓aw_exit, ↓aw_skip, ↓aw_reg, ↓Qseq_n, ↓Qseq_x, ↓Qblk_x, ↓ops_nil, ↓ops_cons, ↓ops_guard, ↓eval_tmp, ↓eval_bool, ↓eval_func, ↓put_some, ↓bK_b, ↓tK_t, ↓op_move, ↓op_assign, ↓op_pick, ↓op_not, ↓op_extract, ↓op_call, isD_d, isD_o, ↓fnK_f, ↓call_H, ↓callK_H, ↓allT_nil, ↓allT_cons, ↓td_d, ↓td_o, ↓st_tm, ↓row_xs, List.getD_cons_zero, List.getD_cons_succ, List.set_cons_zero, List.set_cons_succ, List.append_nil, List.all_cons, List.all_nil, Bool.and_true, Bool.true_and, Bool.and_self, Bool.and_false, Bool.true_or, Bool.false_or, Nat.reduceAdd, Nat.reduceSub, Nat.reduceMul, evK_go, reduceIte, decide_false, Bool.not_true, Nat.reduceEqDiff, Nat.reduceLT, and_self, true_and, and_true, Nat.lt_irrefl, List.drop_zero]
        (repeat refine OrH.l ?_)
        refine ⟨rfl, ?_⟩
        (repeat refine OrH.l ?_)
        refine ⟨⟨⟨by omega, hpre.1.2⟩, hpre.2.2⟩, ?_⟩
        refine cdK_split (fun hS => ?_) (fun hS => ?_)
        · by_cases hE : isE L R h = 0
          · cases hBb : isB L R h with
            | false =>
              simp (implicitDefEqProofs := false) (dsimp := false) only [hS, hE, eval_nilI, ↓er_neq, ↓cdK_true, ↓cdK_false, ↓gdK_f, ↓gval_mk, ↓gvL_zero, ↓gvL_succ, ↓aw_ret, ↓Qseq_n, ↓Qret_r, ↓ops_nil, ↓ops_cons, ↓ops_guard, ↓eval_tmp, ↓eval_bool, ↓put_some, ↓bK_b, ↓op_move, ↓op_assign, ↓op_pick, ↓op_bin, ↓op_not, ↓td_d, ↓ret_1, ↓st_tm, List.getD_cons_zero, List.getD_cons_succ, List.set_cons_zero, List.set_cons_succ, Nat.reduceAdd, Nat.reduceSub, Nat.reduceMul, evK_go, reduceIte, decide_true, Bool.not_true, Bool.not_false, Nat.reduceEqDiff, Nat.reduceLT]
            | true =>
              have hl := hlast hS hE hBb
              have hdd : decide ((pairsR L R).map Int.ofNat = (pairsR L R).map Int.ofNat) = true := decide_eq_true rfl
              simp (implicitDefEqProofs := false) (dsimp := false) only [hS, hE, hl, intsM_call, hG62, eval_nilI, ↓er_neq, ↓cdK_false, ↓gdK_f, ↓gval_mk, ↓gvL_zero, ↓gvL_succ, ↓aw_ret, ↓Qseq_n, ↓Qret_r, ↓ops_nil, ↓ops_cons, ↓ops_guard, ↓eval_tmp, ↓eval_func, ↓put_some, ↓bK_b, ↓op_move, ↓op_assign, ↓op_pick, ↓op_bin, ↓op_not, ↓op_call, ↓orH_T, isD_d, ↓fnK_f, ↓call_H, ↓callK_H, ↓allT_nil, ↓allT_cons, ↓td_d, ↓ret_1, ↓st_tm, List.getD_cons_zero, List.getD_cons_succ, List.set_cons_zero, List.set_cons_succ, List.append_nil, List.all_cons, List.all_nil, Bool.and_self, Bool.true_or, Nat.reduceAdd, Nat.reduceSub, Nat.reduceMul, evK_go, reduceIte, decide_true, Bool.not_true, Nat.reduceEqDiff, Nat.reduceLT, and_self]
          · have hBb := isB_not hE
            simp (implicitDefEqProofs := false) (dsimp := false) only [hS, decide_eq_false hE, hE, hBb, eval_nilI, ↓er_neq, ↓cdK_true, ↓cdK_false, ↓gdK_f, ↓gval_mk, ↓gvL_zero, ↓gvL_succ, ↓aw_ret, ↓Qseq_n, ↓Qret_r, ↓ops_nil, ↓ops_cons, ↓ops_guard, ↓eval_tmp, ↓eval_bool, ↓put_some, ↓bK_b, ↓op_move, ↓op_assign, ↓op_pick, ↓op_bin, ↓td_d, ↓ret_1, ↓st_tm, List.getD_cons_zero, List.getD_cons_succ, List.set_cons_zero, List.set_cons_succ, Nat.reduceAdd, Nat.reduceSub, Nat.reduceMul, evK_go, reduceIte, decide_false, Bool.not_true, Bool.not_false, Nat.reduceEqDiff, Nat.reduceLT]
        · simp (implicitDefEqProofs := false) (dsimp := false) only [hS, ↓cdK_true, ↓gdK_f, ↓gval_mk, ↓gvL_zero, ↓gvL_succ, ↓aw_ret, ↓Qseq_n, ↓Qret_r, ↓ops_nil, ↓ops_cons, ↓ops_guard, ↓eval_tmp, ↓eval_bool, ↓put_some, ↓bK_b, ↓op_move, ↓op_assign, ↓op_pick, ↓td_d, ↓ret_1, ↓st_tm, List.getD_cons_zero, List.getD_cons_succ, List.set_cons_zero, List.set_cons_succ, Nat.reduceAdd, Nat.reduceSub, Nat.reduceMul, evK_go, reduceIte, Bool.not_false, Nat.reduceEqDiff, Nat.reduceLT]
end Go.Proofs

namespace Go.Proofs
set_option maxRecDepth 100000
theorem cutNo : ("cut".toList == "gc".toList || "cut".toList == "spec".toList) = false := by kernel_rfl
theorem cutNo2 : ("cut".toList == "carried".toList) = false := by kernel_rfl
theorem cutStrip (T : List (List Char)) : stripLifts liftWords ("cut".toList :: T) = ([], "cut".toList :: T) := by kernel_rfl
theorem make_of {P : Program} {T : List (List Char)} (h : behindMainWord (wordsSigns P.initOrder.toList) = "cut".toList :: T) : P.make = some .cut := by
  unfold Program.make
  rw [h]
  simp (implicitDefEqProofs := false) (dsimp := false) only [cutNo, beq_self_eq_true, Bool.true_or, Bool.false_eq_true, if_false, if_true]
theorem enter_of {P : Program} {T : List (List Char)} (h : behindMainWord (wordsSigns P.initOrder.toList) = "cut".toList :: T) (h1 : P.laysLater = false) (h2 : P.bearsReflect = false) (h3 : P.doorRows = []) : P.mayEnter = true := by
  unfold Program.mayEnter
  rw [h]
  simp (implicitDefEqProofs := false) (dsimp := false) only [cutStrip, cutNo, cutNo2, h1, h2, Program.doorFits, h3, List.head?_cons, beq_self_eq_true, Bool.not_false, Bool.or_true, Bool.and_true, Bool.true_and]
  rfl
theorem final_of {P : Program} {T : List (List Char)} (h : behindMainWord (wordsSigns P.initOrder.toList) = "cut".toList :: T) : P.liftsFinal = false := by
  unfold Program.liftsFinal Program.headLifts
  rw [h]
  simp (implicitDefEqProofs := false) (dsimp := false) only [cutStrip]
  kernel_rfl
theorem cutWord : behindMainWord (wordsSigns Try.prog.initOrder.toList) = "cut".toList :: (behindMainWord (wordsSigns Try.prog.initOrder.toList)).tail := by
  have h : Try.prog.initOrder.toList = _ := String.toList_ofList
  rw [h]
  show (_ : List (List Char)) = _
  kernel_rfl
theorem pLater : Try.prog.laysLater = false := by
  unfold Program.laysLater
  rw [← Array.any_toList]
  kernel_rfl
theorem pReflect : Try.prog.bearsReflect = false := by kernel_rfl
theorem pDoor : Try.prog.doorRows = [] := by kernel_rfl
theorem pMake : Try.prog.make = some .cut := make_of cutWord
theorem pEnter : Try.prog.mayEnter = true := enter_of cutWord pLater pReflect pDoor
theorem pFinal : Try.prog.liftsFinal = false := final_of cutWord
theorem pLaid : laidOutB Try.prog = true := by kernel_rfl
theorem pRowed : mapsRowed Try.prog = true := by kernel_rfl
theorem pStops : (Try.prog.stops == []) = true := by kernel_rfl
theorem pKnobs : (Try.prog.stopKnobs == []) = true := by kernel_rfl
theorem pHeard : Try.prog.stopsHeard = true := by kernel_rfl
theorem pOwn : ownKnob Try.prog.godebug = none := by kernel_rfl
theorem andB {a b : Bool} (ha : a = true) (hb : b = true) : (a && b) = true := by rw [ha, hb]; rfl
end Go.Proofs
