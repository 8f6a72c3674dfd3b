/- Part W 2 of what the proof of PairsRight stands on: what the functions of the program compute. -/
import Derived.Test.YtblhpmhfhpmifaaDoorW1
import Derived.WalkKit
import Derived.LaidEql
import Derived.Stop.Asserts
import Derived.RowKitTokens
import Derived.Deep.Grids
set_option linter.unusedVariables false
set_option linter.unusedSimpArgs false
namespace Go.Proofs
open Go.Aw
set_option linter.unusedSimpArgs false
set_option maxRecDepth 10000
def litK (q : LitT) : Nat := (litN q false).toNat
def clN (l : List OrT) : List (Nat × Nat) := l.map fun o => (litK o.1, litK o.2)
/-- All names lie within bounds. -/
def OrsIn (n : Nat) (l : List OrT) : Prop := ∀ o ∈ l, (0 ≤ o.1.1 ∧ o.1.1 < n) ∧ (0 ≤ o.2.1 ∧ o.2.1 < n)
theorem litN_false {q : LitT} {n : Nat} (h : 0 ≤ q.1 ∧ q.1 < n) : litN q false = (litK q : Int) ∧ litK q < 2 * n := by
  unfold litK litN
  split <;> omega
theorem litN_true {q : LitT} {n : Nat} (h : 0 ≤ q.1 ∧ q.1 < n) : litN q true = (neg (litK q) : Int) := by
  obtain ⟨x, b⟩ := q
  unfold litK litN neg
  cases b
  · simp (implicitDefEqProofs := false) (dsimp := false) only [bne, beq_self_eq_true, Bool.not_true, Bool.false_eq_true, if_false, reduceIte, show (false == true) = false from rfl, Bool.not_false]
    rw [if_pos (by omega)]; omega
  · simp (implicitDefEqProofs := false) (dsimp := false) only [bne, beq_self_eq_true, Bool.not_true, Bool.false_eq_true, if_false, reduceIte, show (true == false) = false from rfl, Bool.not_false]
    rw [if_neg (by omega)]; omega
theorem impL_snoc (l : List OrT) (o : OrT) : impL (clN (l ++ [o])) = impL (clN l) ++ [(neg (litK o.1), litK o.2), (neg (litK o.2), litK o.1)] := by simp [impL, clN]
theorem impL_len (l : List OrT) : (impL (clN l)).length = 2 * l.length := by
  induction l with
  | nil => rfl
  | cons o l ih => simp (implicitDefEqProofs := false) (dsimp := false) only [impL, clN, List.map_cons, List.flatMap_cons, List.length_append, List.length_cons, List.length_nil] at ih ⊢; omega
theorem clN_good {n : Nat} {l : List OrT} (h : OrsIn n l) : Good (2 * n) (clN l) := by
  intro p hp
  obtain ⟨o, ho, rfl⟩ := List.mem_map.1 hp
  exact ⟨(litN_false (h o ho).1).2, (litN_false (h o ho).2).2⟩
theorem point2_spec (x : Int) (b t : Bool) (hpre : 0 ≤ x ∧ x ≤ 8) : FnD Tryd.prog 114 [.s [I .i64 x, Bo b], Bo t] (I .i64 (litN (x, b) t)) := point_spec (x, b) t hpre
theorem point2_call (x : Int) (b t : Bool) (pure : Bool) (σ : St) (dst : Option Tmp) (K : St → Prop) : CallH Tryd.prog 114 [.s [I .i64 x, Bo b], Bo t] pure σ dst (.mk : Hid K) = OrH ((0 ≤ x ∧ x ≤ 8) ∧ (pure || D.flat (I .i64 (litN (x, b) t))) = true ∧ evK (σ.put dst (.d (I .i64 (litN (x, b) t)))) (.mk : Hid K)) (.mk : Hid (CallH Tryd.prog 114 [.s [I .i64 x, Bo b], Bo t] pure σ dst (.mk : Hid K))) := CallH.eq (point2_spec x b t) pure σ dst K
theorem point2_callQ (x : Int) (b t : Bool) (pure : Bool) (C : V → Prop) : CallQ Tryd.prog 114 [.s [I .i64 x, Bo b], Bo t] pure (.mk : Hid C) = OrH ((0 ≤ x ∧ x ≤ 8) ∧ (pure || D.flat (I .i64 (litN (x, b) t))) = true ∧ evK (V.d (I .i64 (litN (x, b) t))) (.mk : Hid C)) (.mk : Hid (CallQ Tryd.prog 114 [.s [I .i64 x, Bo b], Bo t] pure (.mk : Hid C))) := CallQ.eq (point2_spec x b t) pure C
theorem follows_spec (n : Nat) (l : List OrT) (hpre : n ≤ 4 ∧ l.length < 2 ^ 40 ∧ OrsIn n l) : FnR Tryd.prog 88 [I .i64 (n : Int), .l (l.map orD)] 1 ((outS (2 * n) (impL (clN l))).map U) := by
  obtain ⟨hn, hl, hin⟩ := hpre
  refine FnR.go Tryd.func88 rfl rfl Tryd.results88 Tryd.ntmps88 ?_
  simp (implicitDefEqProofs := false) (dsimp := false) only [↓aw_seq, ↓aw_block, ↓aw_loop, ↓aw_reg, ↓Qseq_n, ↓ops_nil, ↓ops_cons, ↓eval_tmp, ↓eval_int, ↓eval_nil, ↓put_some, ↓lenK_l, ↓op_move, ↓op_assign, ↓op_len, ↓sl45, List.getD_cons_zero, List.getD_cons_succ, List.set_cons_zero, List.set_cons_succ, List.cons_append, List.nil_append, List.map_cons, List.map_nil, List.length_cons, List.length_nil, List.length_map, Nat.reduceAdd, Nat.reduceSub, Nat.reduceMul, Nat.zero_add, List.replicate, evK_go, reduceIte, Nat.reduceEqDiff, Nat.reduceLT, Int.zero_add]
  refine loopW (fun k : Nat => { tm := slots 36 [(0, .d (I .i64 (n : Int))), (5, .o 0 0 (2 * k)), (8, .d (.l (l.map orD))), (9, .d (I .i64 l.length)), (10, .d (I .i64 k))], bx := [], rw := [some ⟨2, (impL (clN (l.take k))).map lnN⟩] })
    (fun k => k ≤ l.length) (fun k => l.length - k) 0 (by simp) ?_ ?_
  · refine Wkn.of [] [none] ?_
    simp (implicitDefEqProofs := false) (dsimp := false) only [↓row_xs, List.set_cons_zero, List.set_cons_succ, Bool.and_true, Bool.true_and, Bool.and_self, Nat.reduceAdd, Nat.reduceSub, Nat.reduceMul, List.replicate, evK_go, reduceIte, Nat.reduceEqDiff, Nat.reduceLT, and_self, true_and, and_true, List.take_zero, List.foldl_cons, List.foldl_nil, Int.cast_ofNat_Int, slots, wkL_nil, wkL_cons, wkB_nil, wkR_nil, wkR_new, wkV_j, wkV_d, nlK_nl, wkV_o, frz_d, oK_zn, reduceCtorEq]
    simp [clN, impL]
  · intro k hk
    simp (implicitDefEqProofs := false) (dsimp := false) only [slots, ↓aw_cond, ↓aw_seq, ↓aw_reg, ↓Qseq_n, ↓ops_nil, ↓ops_cons, ↓eval_tmp, ↓put_some, ↓bK_b, ↓binE_i, ↓bi_lss, ↓op_bin, List.getD_cons_zero, List.getD_cons_succ, List.set_cons_zero, List.set_cons_succ, Nat.reduceAdd, Nat.reduceSub, Nat.reduceMul, List.replicate, evK_go, reduceIte, Nat.reduceEqDiff, Nat.reduceLT, List.foldl_cons, List.foldl_nil, Int.ofNat_lt]
    refine cdK_dec (fun h => ?_) (fun h => ?_)
    · obtain ⟨o1, o2⟩ := hin _ (getD_mem h)
      have hs := impL_snoc (l.take k) (l.getD k default)
      have hlen' : (impL (clN (l.take k))).length = 2 * k := by rw [impL_len, List.length_take]; omega
      rw [← take_succ_getD h] at hs
      generalize hab : l.getD k default = o at o1 o2 hs
      obtain ⟨⟨x, b⟩, y, c⟩ := o
      have p1 : (0 ≤ x ∧ x ≤ 8) := by simp only at o1; omega
      have p2 : (0 ≤ y ∧ y ≤ 8) := by simp only at o2; omega
      simp (implicitDefEqProofs := false) (dsimp := false) only [h, orD, hab, point2_callQ, p1, p2, litN_false o1, litN_false o2, litN_true o1, litN_true o2, ↓optK_some, ↓rwK_mk_, ↓atK_H, ↓atH_map, ↓aw_seq, ↓aw_block, ↓aw_skip, ↓aw_reg, ↓aw_draw, ↓Qseq_n, ↓Qblk_n, ↓ops_nil, ↓ops_cons, ↓eval_tmp, ↓eval_int, ↓eval_bool, ↓eval_func, ↓put_some, ↓put_none, ↓iK_i, ↓dK_d, ↓ev_move, ↓ev_load, ↓ev_fa, ↓ev_build, ↓binE_i, ↓bi_add, ↓in_i64, ↓ldK_q, ↓sboxK_s, ↓ldK_p, ↓faK_p, ↓iaK_l, ↓op_move, ↓op_assign, ↓op_load, ↓op_bin, ↓op_ia, ↓op_append, ↓op_alloc, ↓op_store, isD_d, ↓fnK_f, ↓callKQ_H, ↓allT_nil, ↓allT_cons, ↓allD_nil, ↓allD_cons, ↓td_d, ↓draw_H, ↓h_cons, ↓ldH_t, ↓ldH_n, ↓q_call, ↓q_bs, ↓q_move, ↓q_load, ↓q_fa, ↓q_build, ↓il_move, ↓il_load, ↓il_fa, ↓il_build, ↓il_bs, ↓il_call, ↓il_append, ↓addBox_mk, ↓setBox_mk, ↓app_mk, ↓st_bx, ↓row_sz, ↓row_xs, kill_d, kill_j, kill_p, kill_o, ↓cells_c, ↓cells_s, ↓vcells_s, ↓one_i, ↓one_b, ↓vone_d, constV_a, ↓st_p, ↓ap_, ↓ap_o, ↓src_l, ↓bs_, ↓vsz_agg, ↓inO_2, ↓fm_nil, ↓fm_cons, ↓sl22, ↓ty41, ↓zb41, ↓bd41, ↓sl45, ↓ty91, ↓ty93, ↓zb93, ↓fd93_0, ↓fd93_1, List.getD_cons_zero, List.getD_cons_succ, List.set_cons_zero, List.set_cons_succ, List.cons_append, List.nil_append, List.append_nil, List.map_cons, List.map_nil, List.length_cons, List.length_nil, List.length_map, List.all_cons, List.all_nil, Bool.true_and, Bool.and_self, Bool.true_or, Nat.reduceAdd, Nat.reduceSub, Nat.reduceMul, Nat.zero_add, Nat.add_zero, Int.toNat_natCast, evK_go, reduceIte, decide_true, Nat.reduceEqDiff, Nat.reduceLT, and_self, true_and, Int.zero_add, List.drop_zero, List.take_succ_cons, List.drop_succ_cons, List.take_zero, List.take_nil, Int.natCast_nonneg]
      refine ⟨by decide, ?_⟩
      (repeat refine OrH.l ?_)
      refine ⟨DrawH.of follows_mixed (by kernel_rfl), by decide, ?_⟩
      (repeat refine OrH.l ?_)
      refine ⟨by decide, ?_⟩
      (repeat refine OrH.l ?_)
      refine ⟨by decide, ?_⟩
      (repeat refine OrH.l ?_)
      refine ⟨by decide, ?_⟩
      (repeat refine OrH.l ?_)
      refine ⟨⟨rfl, by decide⟩, rfl, ⟨fun _ => trivial, hlen'.symm, by omega, by omega⟩, by omega, k + 1, by omega, by omega, ?_⟩
      refine Wkn.of [] [some 0] ?_
      simp (implicitDefEqProofs := false) (dsimp := false) only [hs, List.map_append, lnN, Nat.mul_succ, List.getD_cons_zero, List.set_cons_zero, List.set_cons_succ, List.map_cons, List.map_nil, Bool.and_self, Nat.reduceAdd, Nat.reduceSub, Nat.reduceMul, List.replicate, evK_go, reduceIte, Nat.reduceEqDiff, Nat.reduceLT, and_self, List.foldl_cons, List.foldl_nil, Int.cast_ofNat_Int, Int.natCast_add, slots, wkL_nil, wkL_cons, wkB_nil, wkR_nil, wkR_some, wkV_j, wkV_d, wkV_o, frz_d, oK_zs, reduceCtorEq]
    · obtain rfl : k = l.length := by omega
      have hl2 := impL_len l
      rw [List.take_length]
      have e2 : (2 : Int) * (n : Int) = ((2 * n : Nat) : Int) := by omega
      have e3 : List.take (2 * l.length) (List.map lnN (impL (clN l))) = List.map lnN (impL (clN l)) := List.take_of_length_le (by simp [hl2])
      have hgo := imp_good (clN_good hin)
      have hout : 2 * n ≤ 64 ∧ (impL (clN l)).length < 2 ^ 62 ∧ ∀ p ∈ impL (clN l), p.1 < 2 * n ∧ p.2 < 64 := ⟨by omega, by omega, fun p hp => by have := hgo p hp; omega⟩
      simp (implicitDefEqProofs := false) (dsimp := false) only [↓optK_some, ↓rwK_mk_, ↓aw_seq, ↓aw_exit, ↓aw_reg, ↓Qseq_n, ↓Qseq_x, ↓Qblk_x, ↓ops_cons, ↓eval_tmp, ↓eval_int, ↓eval_func, ↓put_some, ↓binE_i, ↓bi_mul, ↓in_i64, ↓op_move, ↓op_bin, ↓op_call, isD_d, isD_o, ↓fnK_f, ↓call_H, ↓callK_H, ↓allT_nil, ↓allT_cons, ↓td_d, ↓td_o, ↓row_xs, List.getD_cons_zero, List.getD_cons_succ, List.set_cons_zero, List.set_cons_succ, List.append_nil, List.all_cons, List.all_nil, Bool.and_true, Bool.and_false, Nat.reduceAdd, Nat.reduceSub, Nat.reduceMul, evK_go, reduceIte, decide_false, Nat.reduceEqDiff, Nat.reduceLT, and_true, Nat.lt_irrefl, List.drop_zero]
      refine ⟨by omega, ?_⟩
      simp (implicitDefEqProofs := false) (dsimp := false) only [e2, e3, out_call, hout, rflat_U, ↓optK_some, ↓rwK_mk_, ↓aw_ret, ↓Qseq_n, ↓ops_nil, ↓ops_cons, ↓eval_tmp, ↓put_some, ↓op_assign, ↓addRow_mk, ↓st_rw, ↓row_sz, ↓row_xs, ↓take_map, ↓Qrow_r, ↓rowK_o, List.getD_cons_zero, List.getD_cons_succ, List.set_cons_zero, List.set_cons_succ, List.cons_append, List.nil_append, List.length_cons, List.length_nil, List.length_map, Bool.and_true, Bool.true_and, Bool.and_self, Bool.or_true, Nat.reduceAdd, Nat.reduceSub, Nat.reduceMul, Nat.zero_add, evK_go, reduceIte, Nat.reduceEqDiff, Nat.reduceLT, and_self, true_and, and_true, Int.zero_add]
      (repeat refine OrH.l ?_)
      exact hout.2.2
theorem follows_call (n : Nat) (l : List OrT) (pure : Bool) (σ : St) (dst : Option Tmp) (K : St → Prop) : CallH Tryd.prog 88 [I .i64 (n : Int), .l (l.map orD)] pure σ dst (.mk : Hid K) = OrH ((n ≤ 4 ∧ l.length < 2 ^ 40 ∧ OrsIn n l) ∧ (pure || Res.flat (.row 1 ((outS (2 * n) (impL (clN l))).map U))) = true ∧ evK ((σ.addRow ⟨1, (outS (2 * n) (impL (clN l))).map U⟩).put dst (.o σ.rw.length 0 (List.length ((outS (2 * n) (impL (clN l))).map U)))) (.mk : Hid K)) (.mk : Hid (CallH Tryd.prog 88 [I .i64 (n : Int), .l (l.map orD)] pure σ dst (.mk : Hid K))) := CallH.eqR (fun h => follows_spec n l h) pure σ dst K
theorem follows_callD (n : Nat) (l : List OrT) (pure : Bool) (σ : St) (dst : Option Tmp) (K : St → Prop) : CallH Tryd.prog 88 [I .i64 (n : Int), .l (l.map orD)] pure σ dst (.mk : Hid K) = OrH ((n ≤ 4 ∧ l.length < 2 ^ 40 ∧ OrsIn n l) ∧ (pure || D.flat (.l ((outS (2 * n) (impL (clN l))).map U))) = true ∧ evK (σ.put dst (.d (.l ((outS (2 * n) (impL (clN l))).map U)))) (.mk : Hid K)) (.mk : Hid (CallH Tryd.prog 88 [I .i64 (n : Int), .l (l.map orD)] pure σ dst (.mk : Hid K))) := CallH.eq (fun h => ((fun h => follows_spec n l h) h).data) pure σ dst K
theorem follows_callDQ (n : Nat) (l : List OrT) (pure : Bool) (C : V → Prop) : CallQ Tryd.prog 88 [I .i64 (n : Int), .l (l.map orD)] pure (.mk : Hid C) = OrH ((n ≤ 4 ∧ l.length < 2 ^ 40 ∧ OrsIn n l) ∧ (pure || D.flat (.l ((outS (2 * n) (impL (clN l))).map U))) = true ∧ evK (V.d (.l ((outS (2 * n) (impL (clN l))).map U))) (.mk : Hid C)) (.mk : Hid (CallQ Tryd.prog 88 [I .i64 (n : Int), .l (l.map orD)] pure (.mk : Hid C))) := CallQ.eq (fun h => ((fun h => follows_spec n l h) h).data) pure C
end Go.Proofs

namespace Go.Proofs
open Go.Aw
set_option linter.unusedSimpArgs false
set_option maxRecDepth 10000
theorem nDI (s : List Nat) : s.map nD = (s.map Int.ofNat).map (I .i64) := by rw [List.map_map]; rfl
def lnR (x : List Nat) : D := .l (x.map nD)
def toN (L : List (List Int)) : List (List Nat) := L.map fun x => x.map Int.toNat
theorem toNat_back {x : List Int} (h : ∀ y ∈ x, 0 ≤ y) : (x.map Int.toNat).map Int.ofNat = x := by
  rw [List.map_map]
  conv => rhs; rw [← List.map_id x]
  refine List.map_congr_left fun y hy => ?_
  have := h y hy
  show ((y.toNat : Nat) : Int) = y
  omega
theorem liD_nat {x : List Int} (h : ∀ y ∈ x, 0 ≤ y) : liD x = lnR (x.map Int.toNat) := by
  unfold liD lnR
  rw [nDI, toNat_back h]
theorem liDs_nat {L : List (List Int)} (h : ∀ x ∈ L, ∀ y ∈ x, 0 ≤ y) : L.map liD = (toN L).map lnR := by
  unfold toN
  rw [List.map_map]
  exact List.map_congr_left fun x hx => liD_nat (h x hx)
theorem firstE_zero {α : Type} {f : α → Int} {l : List α} (h : firstE f l = 0) : ∀ x ∈ l, f x = 0 := by
  induction l with
  | nil => intro x hx; cases hx
  | cons y l ih =>
    intro x hx
    unfold firstE at h
    by_cases hy : f y = 0
    · rw [if_pos hy] at h
      rcases List.mem_cons.1 hx with rfl | hx
      · exact hy
      · exact ih h x hx
    · rw [if_neg hy] at h; exact absurd h hy
theorem rowE_zero {n : Nat} {x : List Int} (h : rowE n x = 0) : x.length = n ∧ (∀ y ∈ x, 0 ≤ y ∧ y ≤ (n : Int) - 1) ∧ x.Nodup := by
  unfold rowE at h
  by_cases h1 : x.length ≠ n
  · rw [if_pos h1] at h; cases h
  rw [if_neg h1] at h
  by_cases h2 : (x.all fun y => inB y 0 ((n : Int) - 1)) = false
  · rw [if_pos h2] at h; cases h
  rw [if_neg h2] at h
  by_cases h3 : x.Nodup
  · refine ⟨by omega, fun y hy => ?_, h3⟩
    have := List.all_eq_true.1 (by simpa using h2) y hy
    simpa [inB] using this
  · rw [if_neg h3] at h; cases h
theorem side_prefs {n : Nat} {L : List (List Int)} (hl : L.length = n) (h : firstE (rowE n) L = 0) : Prefs n (toN L) ∧ ∀ x ∈ L, ∀ y ∈ x, 0 ≤ y := by
  have hz := firstE_zero h
  refine ⟨⟨by simp [toN, hl], fun x hx => ?_⟩, fun x hx y hy => ((rowE_zero (hz x hx)).2.1 y hy).1⟩
  obtain ⟨y, hy, rfl⟩ := List.mem_map.1 hx
  obtain ⟨h1, h2, h3⟩ := rowE_zero (hz y hy)
  refine ⟨by simp [h1], ?_, fun z hz => ?_⟩
  · rw [List.Nodup, List.pairwise_map]
    refine h3.imp_of_mem fun {a b} ha hb hne e => ?_
    have := (h2 a ha).1
    have := (h2 b hb).1
    exact hne (by omega)
  · obtain ⟨w, hw, rfl⟩ := List.mem_map.1 hz
    have := h2 w hw
    omega
structure StOk (L R : List (List Int)) (n : Nat) (A B : List (List Nat)) : Prop where
  hi : n ≤ 6
  lenL : L.length = n
  lenR : R.length = n
  dL : L.map liD = A.map lnR
  dR : R.map liD = B.map lnR
  pL : Prefs n A
  pR : Prefs n B
theorem st_ok {L R : List (List Int)} (h : stE L R = 0) : StOk L R L.length (toN L) (toN R) := by
  unfold stE at h
  by_cases h1 : 6 < L.length ∨ 6 < R.length
  · rw [if_pos h1] at h; cases h
  rw [if_neg h1] at h
  by_cases h2 : L.length ≠ R.length
  · rw [if_pos h2] at h; cases h
  rw [if_neg h2] at h
  by_cases h3 : firstE (rowE L.length) L = 0
  · rw [if_pos h3] at h
    obtain ⟨g1, g2⟩ := side_prefs rfl h3
    obtain ⟨g3, g4⟩ := side_prefs (by omega) h
    exact ⟨by omega, rfl, by omega, liDs_nat g2, liDs_nat g4, g1, g3⟩
  · rw [if_neg h3] at h; exact absurd h h3
theorem place_nat (l : List Nat) (n : Nat) : place (l.map Int.ofNat) (n : Int) = if n ∈ l then ((l.idxOf n : Nat) : Int) else -1 := by
  unfold place
  have hm : ((n : Int) ∈ l.map Int.ofNat) ↔ n ∈ l := by
    rw [List.mem_map]
    exact ⟨fun ⟨x, hx, e⟩ => (Int.ofNat.inj e) ▸ hx, fun h => ⟨n, h, rfl⟩⟩
  by_cases h : n ∈ l
  · rw [if_pos (hm.2 h), if_pos h]
    congr 1
    clear hm h
    induction l with
    | nil => rfl
    | cons x l ih =>
      rw [List.map_cons, List.idxOf_cons, List.idxOf_cons]
      by_cases e : x = n
      · subst e; simp
      · have e2 : ¬ (Int.ofNat x = (n : Int)) := fun h => e (Int.ofNat.inj h)
        have : (x == n) = false := by simpa using e
        have h2 : (Int.ofNat x == (n : Int)) = false := by simpa using e2
        rw [this, h2]
        simp (implicitDefEqProofs := false) (dsimp := false) only [cond_false]
        rw [ih]
  · rw [if_neg (fun h' => h (hm.1 h')), if_neg h]
theorem indexN_spec (l : List Nat) (n : Nat) (hpre : l.length < 2 ^ 62 ∧ n ∈ l) : FnD Tryd.prog 101 [.l (l.map nD), I .i64 (n : Int)] (I .i64 (l.idxOf n : Nat)) := by
  have h := index_spec (l.map Int.ofNat) n (by simpa using hpre.1)
  rw [place_nat, if_pos hpre.2, ← nDI] at h
  exact h
theorem indexN_call (l : List Nat) (n : Nat) (pure : Bool) (σ : St) (dst : Option Tmp) (K : St → Prop) : CallH Tryd.prog 101 [.l (l.map nD), I .i64 (n : Int)] pure σ dst (.mk : Hid K) = OrH ((l.length < 2 ^ 62 ∧ n ∈ l) ∧ (pure || D.flat (I .i64 (l.idxOf n : Nat))) = true ∧ evK (σ.put dst (.d (I .i64 (l.idxOf n : Nat)))) (.mk : Hid K)) (.mk : Hid (CallH Tryd.prog 101 [.l (l.map nD), I .i64 (n : Int)] pure σ dst (.mk : Hid K))) := CallH.eq (indexN_spec l n) pure σ dst K
theorem indexN_callQ (l : List Nat) (n : Nat) (pure : Bool) (C : V → Prop) : CallQ Tryd.prog 101 [.l (l.map nD), I .i64 (n : Int)] pure (.mk : Hid C) = OrH ((l.length < 2 ^ 62 ∧ n ∈ l) ∧ (pure || D.flat (I .i64 (l.idxOf n : Nat))) = true ∧ evK (V.d (I .i64 (l.idxOf n : Nat))) (.mk : Hid C)) (.mk : Hid (CallQ Tryd.prog 101 [.l (l.map nD), I .i64 (n : Int)] pure (.mk : Hid C))) := CallQ.eq (indexN_spec l n) pure C
def isE (L R : List (List Int)) (h : List Int) : Int := if stE L R = 0 then rowE L.length h else stE L R
def stbI (A B : List (List Nat)) (H : List Nat) (i : Nat) : Bool := ((A.getD i default).take ((A.getD i default).idxOf (H.getD i default))).all fun b => !decide ((B.getD b default).idxOf i < (B.getD b default).idxOf (H.idxOf b))
def stbL (A B : List (List Nat)) (H : List Nat) : Bool := (List.range H.length).all (stbI A B H)
def isB (L R : List (List Int)) (h : List Int) : Bool := if isE L R h = 0 then stbL (toN L) (toN R) (h.map Int.toNat) else false
theorem isB_not {L R : List (List Int)} {h : List Int} (e : isE L R h ≠ 0) : isB L R h = false := if_neg e
theorem sis_spec (L R : List (List Int)) (h : List Int) (hpre : ((L.length < 2 ^ 62 ∧ ∀ x ∈ L, x.length < 2 ^ 62) ∧ R.length < 2 ^ 62 ∧ ∀ x ∈ R, x.length < 2 ^ 62) ∧ h.length < 2 ^ 62) : FnD Tryd.prog 64 [.l (L.map liD), .l (R.map liD), .l (h.map (I .i64))] (.t [Bo (isB L R h), erD (isE L R h)]) := by
  obtain ⟨hLR, hh⟩ := hpre
  refine FnD.go Tryd.func64 rfl rfl Tryd.results64 Tryd.ntmps64 ?_
  simp (implicitDefEqProofs := false) (dsimp := false) only [↓aw_seq, ↓aw_reg, ↓Qseq_n, ↓ops_nil, ↓ops_cons, ↓eval_tmp, ↓eval_bool, ↓eval_func, ↓put_some, ↓op_move, ↓op_assign, ↓op_call, isD_d, ↓fnK_f, ↓call_H, ↓callK_H, ↓allT_nil, ↓allT_cons, ↓td_d, List.getD_cons_zero, List.getD_cons_succ, List.set_cons_zero, List.set_cons_succ, List.cons_append, List.nil_append, List.append_nil, List.map_cons, List.map_nil, List.length_cons, List.length_nil, List.all_cons, List.all_nil, Bool.and_self, Nat.reduceAdd, Nat.reduceSub, Nat.reduceMul, Nat.zero_add, List.replicate, evK_go, reduceIte, Nat.reduceEqDiff, Nat.reduceLT, and_self, Int.zero_add]
  simp (implicitDefEqProofs := false) (dsimp := false) only [scheck_call, hLR, eval_nilI, ↓er_neq, er_flat, ↓cdK_not, ↓aw_cond, ↓aw_seq, ↓aw_reg, ↓Qseq_n, ↓ops_nil, ↓ops_cons, ↓eval_tmp, ↓put_some, ↓bK_b, ↓op_move, ↓op_assign, ↓op_bin, List.getD_cons_zero, List.getD_cons_succ, List.set_cons_zero, List.set_cons_succ, Bool.true_and, Bool.or_true, Nat.reduceAdd, Nat.reduceSub, Nat.reduceMul, evK_go, reduceIte, Nat.reduceEqDiff, Nat.reduceLT, true_and]
  refine OrH.l (OrH.l ⟨⟨hLR.1.2, hLR.2.2⟩, ?_⟩)
  refine cdK_dec (fun hc => ?_) (fun hc => ?_)
  rotate_left
  · have e : isE L R h = stE L R := if_neg hc
    simp (implicitDefEqProofs := false) (dsimp := false) only [isB_not (e ▸ hc), e, ↓aw_seq, ↓aw_ret, ↓aw_reg, ↓Qseq_n, ↓Qseq_r, ↓Qret_r, ↓ops_nil, ↓ops_cons, ↓eval_tmp, ↓eval_bool, ↓put_some, ↓op_move, ↓op_assign, ↓td_d, ↓ret_2, List.getD_cons_zero, List.getD_cons_succ, List.set_cons_zero, List.set_cons_succ, Nat.reduceAdd, Nat.reduceSub, Nat.reduceMul, evK_go, reduceIte, Nat.reduceEqDiff, Nat.reduceLT]
  have e1 : isE L R h = rowE L.length h := if_pos hc
  have ok := st_ok hc
  rw [ok.dL, ok.dR, hc]
  have hA := ok.pL
  have hB := ok.pR
  have hn6 := ok.hi
  have hAl := hA.len
  have hBl := hB.len
  have hib : isE L R h = 0 → isB L R h = stbL (toN L) (toN R) (h.map Int.toNat) := fun e => if_pos e
  have hnb : isE L R h ≠ 0 → isB L R h = false := fun e => isB_not e
  clear ok hLR
  generalize toN L = A at *
  generalize toN R = B at *
  generalize L.length = n at *
  generalize isB L R h = b at *
  generalize isE L R h = e at *
  simp (implicitDefEqProofs := false) (dsimp := false) only [hAl, ↓cdK_not, ↓aw_cond, ↓aw_seq, ↓aw_skip, ↓aw_reg, ↓Qseq_n, ↓ops_nil, ↓ops_cons, ↓eval_tmp, ↓put_some, ↓bK_b, ↓lenK_l, ↓binE_i, ↓bi_neq, ↓op_move, ↓op_bin, ↓op_len, ↓sl24, ↓sl69, List.getD_cons_zero, List.getD_cons_succ, List.set_cons_zero, List.set_cons_succ, List.length_map, Nat.reduceAdd, Nat.reduceSub, Nat.reduceMul, evK_go, reduceIte, decide_true, Bool.not_true, Nat.reduceEqDiff, Nat.reduceLT, Int.natCast_inj]
  refine cdK_dec (fun h1 => ?_) (fun h1 => ?_)
  rotate_left
  · have hr : rowE n h = 3 := by unfold rowE; rw [if_pos (by omega)]
    rw [hr] at e1
    rw [hnb (by rw [e1]; decide), e1]
    simp (implicitDefEqProofs := false) (dsimp := false) only [nc108, ↓aw_seq, ↓aw_ret, ↓aw_reg, ↓Qseq_n, ↓Qseq_r, ↓Qret_r, ↓ops_nil, ↓ops_cons, ↓eval_tmp, ↓eval_int, ↓eval_bool, ↓put_some, ↓vK_c, ↓op_assign, ↓op_iface, ↓td_d, ↓ret_2, ↓nc108, List.getD_cons_zero, List.getD_cons_succ, List.set_cons_zero, List.set_cons_succ, Bool.true_and, Nat.reduceAdd, Nat.reduceSub, Nat.reduceMul, evK_go, reduceIte, Nat.reduceEqDiff, Nat.reduceLT, true_and]
    rfl
  have h1' : h.length = n := by omega
  simp (implicitDefEqProofs := false) (dsimp := false) only [all_call, hh, hAl, ↓cdK_not, ↓aw_cond, ↓aw_seq, ↓aw_skip, ↓aw_reg, ↓Qseq_n, ↓ops_nil, ↓ops_cons, ↓eval_tmp, ↓eval_int, ↓eval_func, ↓put_some, ↓bK_b, ↓lenK_l, ↓binE_i, ↓bi_sub, ↓in_i64, ↓op_move, ↓op_bin, ↓op_not, ↓op_len, ↓op_call, isD_d, ↓fnK_f, ↓call_H, ↓callK_H, ↓allT_nil, ↓allT_cons, ↓td_d, ↓sl69, List.getD_cons_zero, List.getD_cons_succ, List.set_cons_zero, List.set_cons_succ, List.append_nil, List.length_map, List.all_cons, List.all_nil, Bool.true_and, Bool.and_self, Bool.true_or, Nat.reduceAdd, Nat.reduceSub, Nat.reduceMul, evK_go, reduceIte, Nat.reduceEqDiff, Nat.reduceLT, and_self, true_and]
  refine ⟨by omega, ?_⟩
  (repeat refine OrH.l ?_)
  refine cdK_split (fun h7 => ?_) (fun h7 => ?_)
  rotate_left
  · have hr : rowE n h = 1 := by unfold rowE; rw [if_neg (by omega), if_pos h7]
    rw [hr] at e1
    rw [hnb (by rw [e1]; decide), e1]
    simp (implicitDefEqProofs := false) (dsimp := false) only [nc108, ↓aw_seq, ↓aw_ret, ↓aw_reg, ↓Qseq_n, ↓Qseq_r, ↓Qret_r, ↓ops_nil, ↓ops_cons, ↓eval_tmp, ↓eval_int, ↓eval_bool, ↓put_some, ↓vK_c, ↓op_assign, ↓op_iface, ↓td_d, ↓ret_2, ↓nc108, List.getD_cons_zero, List.getD_cons_succ, List.set_cons_zero, List.set_cons_succ, Bool.true_and, Nat.reduceAdd, Nat.reduceSub, Nat.reduceMul, evK_go, reduceIte, Nat.reduceEqDiff, Nat.reduceLT, true_and]
    rfl
  have hpos : ∀ y ∈ h, 0 ≤ y ∧ y < (n : Int) := fun y hy => by
    have h3 : (decide (0 ≤ y) && decide (y ≤ (n : Int) - 1)) = true := List.all_eq_true.1 h7 y hy
    simp at h3; omega
  simp (implicitDefEqProofs := false) (dsimp := false) only [↓aw_seq, ↓aw_block, ↓aw_skip, ↓aw_loop, ↓aw_reg, ↓Qseq_n, ↓ops_nil, ↓ops_cons, ↓eval_tmp, ↓eval_int, ↓put_some, ↓lenK_l, ↓op_move, ↓op_len, ↓sl24, List.getD_cons_zero, List.getD_cons_succ, List.set_cons_zero, List.set_cons_succ, List.length_map, Nat.reduceAdd, Nat.reduceSub, Nat.reduceMul, evK_go, reduceIte, Nat.reduceEqDiff, Nat.reduceLT]
  refine loopW (fun p : Nat => { tm := slots 88 [(0, .d (.l (A.map lnR))), (1, .d (.l (B.map lnR))), (2, .d (.l (h.map (I .i64)))), (34, .d (.l (h.map (I .i64)))), (35, .d (I .i64 (n : Int))), (36, .d (I .i64 p))], bx := [], rw := [] })
    (fun p => p ≤ n ∧ (h.take p).Nodup) (fun p => n - p) 0 ⟨by simp, by simp⟩ ?_ ?_
  · refine Wkn.of [] [] ?_
    simp (implicitDefEqProofs := false) (dsimp := false) only [h1', List.set_cons_zero, List.set_cons_succ, Bool.and_self, Nat.reduceAdd, Nat.reduceSub, Nat.reduceMul, List.replicate, evK_go, reduceIte, decide_true, Bool.not_true, Nat.reduceEqDiff, Nat.reduceLT, and_self, List.foldl_cons, List.foldl_nil, Int.cast_ofNat_Int, slots, wkL_nil, wkL_cons, wkB_nil, wkR_nil, wkV_j, wkV_d, frz_d, reduceCtorEq]
  · rintro p ⟨hp, hnd⟩
    simp (implicitDefEqProofs := false) (dsimp := false) only [slots, ↓aw_cond, ↓aw_seq, ↓aw_reg, ↓Qseq_n, ↓ops_nil, ↓ops_cons, ↓eval_tmp, ↓put_some, ↓bK_b, ↓binE_i, ↓bi_lss, ↓op_bin, List.getD_cons_zero, List.getD_cons_succ, List.set_cons_zero, List.set_cons_succ, Nat.reduceAdd, Nat.reduceSub, Nat.reduceMul, List.replicate, evK_go, reduceIte, Nat.reduceEqDiff, Nat.reduceLT, List.foldl_cons, List.foldl_nil, Int.ofNat_lt]
    refine cdK_dec (fun h8 => ?_) (fun h8 => ?_)
    · have hpx : p < h.length := by omega
      have hp62 : (h.take p).length < 2 ^ 62 := by simp; omega
      simp (implicitDefEqProofs := false) (dsimp := false) only [hpx, ← List.map_take, contains_call, hp62, ↓atK_H, ↓atH_map, ↓aw_cond, ↓aw_seq, ↓aw_block, ↓aw_skip, ↓aw_reg, ↓Qseq_n, ↓ops_nil, ↓ops_cons, ↓eval_tmp, ↓eval_func, ↓put_some, ↓bK_b, ↓iK_i, ↓optI_none, ↓optI_some, ↓ldK_q, ↓iaK_l, ↓sliK_l, ↓op_move, ↓op_assign, ↓op_load, ↓op_ia, ↓op_slice, ↓op_call, isD_d, ↓fnK_f, ↓call_H, ↓callK_H, ↓allT_nil, ↓allT_cons, ↓td_d, ↓cells_c, ↓hd_cons, ↓ty3, ↓sl24, List.getD_cons_zero, List.getD_cons_succ, List.set_cons_zero, List.set_cons_succ, List.append_nil, List.length_cons, List.length_nil, List.length_map, List.all_cons, List.all_nil, Bool.true_and, Bool.and_self, Bool.true_or, Nat.reduceAdd, Nat.reduceSub, Nat.reduceMul, Nat.zero_add, Int.toNat_natCast, Int.toNat_zero, evK_go, reduceIte, Nat.reduceEqDiff, Nat.reduceLT, and_self, true_and, Option.getD_none, Option.getD_some, Int.zero_add, List.drop_zero, Int.ofNat_le, Int.natCast_nonneg]
      refine ⟨⟨by omega, by omega⟩, fun y hy => ?_, ?_⟩
      · obtain ⟨q, _, rfl⟩ := List.mem_map.1 hy
        rfl
      (repeat refine OrH.l ?_)
      refine cdK_dec (fun h9 => ?_) (fun h9 => ?_)
      · have hno : ¬ h.Nodup := fun hn => by
          have e := take_succ_getD hpx
          have h10 : (h.take (p + 1)).Nodup := hn.sublist (List.take_sublist _ _)
          rw [e] at h10
          exact (List.nodup_append.1 h10).2.2 _ h9 _ (by simp) rfl
        have hr : rowE n h = 6 := by unfold rowE; rw [if_neg (by omega), if_neg (by rw [h7]; decide), if_neg hno]
        rw [hr] at e1
        rw [hnb (by rw [e1]; decide), e1]
        simp (implicitDefEqProofs := false) (dsimp := false) only [nc108, ↓aw_seq, ↓aw_ret, ↓aw_reg, ↓Qseq_n, ↓Qseq_r, ↓Qblk_r, ↓Qret_r, ↓ops_nil, ↓ops_cons, ↓eval_tmp, ↓eval_int, ↓eval_bool, ↓put_some, ↓vK_c, ↓op_assign, ↓op_iface, ↓td_d, ↓ret_2, ↓nc108, List.getD_cons_zero, List.getD_cons_succ, List.set_cons_zero, List.set_cons_succ, Bool.true_and, Nat.reduceAdd, Nat.reduceSub, Nat.reduceMul, evK_go, reduceIte, Nat.reduceEqDiff, Nat.reduceLT, true_and]
        rfl
      · simp (implicitDefEqProofs := false) (dsimp := false) only [↓aw_skip, ↓aw_reg, ↓Qseq_n, ↓Qblk_n, ↓ops_nil, ↓ops_cons, ↓eval_tmp, ↓eval_int, ↓put_some, ↓binE_i, ↓bi_add, ↓in_i64, ↓op_move, ↓op_bin, List.getD_cons_zero, List.getD_cons_succ, List.set_cons_zero, List.set_cons_succ, Nat.reduceAdd, Nat.reduceSub, Nat.reduceMul, evK_go, reduceIte, Nat.reduceEqDiff, Nat.reduceLT]
        refine ⟨by omega, p + 1, ⟨by omega, ?_⟩, by omega, ?_⟩
        · rw [take_succ_getD hpx]
          refine List.nodup_append.2 ⟨hnd, by simp, fun a ha b hb e => ?_⟩
          rw [List.mem_singleton.1 hb] at e
          exact h9 (e ▸ ha)
        · refine Wkn.of [] [] ?_; simp (implicitDefEqProofs := false) (dsimp := false) only [List.set_cons_zero, List.set_cons_succ, Bool.and_self, Nat.reduceAdd, Nat.reduceSub, Nat.reduceMul, List.replicate, evK_go, reduceIte, Nat.reduceEqDiff, Nat.reduceLT, and_self, List.foldl_cons, List.foldl_nil, Int.cast_ofNat_Int, Int.natCast_add, slots, wkL_nil, wkL_cons, wkB_nil, wkR_nil, wkV_j, wkV_d, frz_d, reduceCtorEq]
    · obtain rfl : p = n := by omega
      rw [List.take_of_length_le (by omega)] at hnd
      have hr : rowE p h = 0 := by unfold rowE; rw [if_neg (by omega), if_neg (by rw [h7]; decide), if_pos hnd]
      rw [hr] at e1
      rw [hib e1, e1]
      have hHd : h.map (I .i64) = (h.map Int.toNat).map nD := by rw [nDI, toNat_back fun y hy => (hpos y hy).1]
      have hHl : (h.map Int.toNat).length = p := by simp [h1']
      have hHn : (h.map Int.toNat).Nodup := by
        rw [List.Nodup, List.pairwise_map]
        refine hnd.imp_of_mem fun {a b} ha hb hne e => ?_
        have := (hpos a ha).1
        have := (hpos b hb).1
        exact hne (by omega)
      have hHx : ∀ y ∈ h.map Int.toNat, y < p := fun y hy => by
        obtain ⟨z, hz, rfl⟩ := List.mem_map.1 hy
        have := hpos z hz
        omega
      rw [hHd]
      clear hHd hpos h7
      generalize h.map Int.toNat = H at *
      have hHm : ∀ j, j < p → j ∈ H := fun j hj => by
        have hP : Prefs p (List.replicate p H) := ⟨by simp, fun x hx => by rw [List.eq_of_mem_replicate hx]; exact ⟨hHl, hHn, hHx⟩⟩
        have hm := hP.mem hj hj
        rwa [List.getD_eq_getElem?_getD, List.getElem?_replicate, if_pos hj] at hm
      simp (implicitDefEqProofs := false) (dsimp := false) only [↓aw_seq, ↓aw_block, ↓aw_exit, ↓aw_loop, ↓aw_reg, ↓Qseq_n, ↓Qseq_x, ↓Qblk_x, ↓ops_nil, ↓ops_cons, ↓eval_tmp, ↓eval_int, ↓put_some, ↓lenK_l, ↓op_move, ↓op_len, ↓sl24, List.getD_cons_zero, List.getD_cons_succ, List.set_cons_zero, List.set_cons_succ, List.length_map, Nat.reduceAdd, Nat.reduceSub, Nat.reduceMul, evK_go, reduceIte, decide_false, Nat.reduceEqDiff, Nat.reduceLT, Nat.lt_irrefl]
      refine loopW (fun i : Nat => { tm := slots 88 [(0, .d (.l (A.map lnR))), (1, .d (.l (B.map lnR))), (2, .d (.l (H.map nD))), (48, .d (.l (H.map nD))), (49, .d (I .i64 (p : Int))), (50, .d (I .i64 i))], bx := [], rw := [] })
        (fun i => i ≤ p ∧ (List.range i).all (stbI A B H) = true) (fun i => p - i) 0 ⟨by simp, by simp⟩ ?_ ?_
      · refine Wkn.of [] [] ?_
        simp (implicitDefEqProofs := false) (dsimp := false) only [hHl, List.set_cons_zero, List.set_cons_succ, Bool.and_self, Nat.reduceAdd, Nat.reduceSub, Nat.reduceMul, List.replicate, evK_go, reduceIte, Nat.reduceEqDiff, Nat.reduceLT, and_self, List.foldl_cons, List.foldl_nil, Int.cast_ofNat_Int, slots, wkL_nil, wkL_cons, wkB_nil, wkR_nil, wkV_j, wkV_d, frz_d, reduceCtorEq]
      · rintro i ⟨hi, hall⟩
        simp (implicitDefEqProofs := false) (dsimp := false) only [slots, ↓aw_cond, ↓aw_seq, ↓aw_reg, ↓Qseq_n, ↓ops_nil, ↓ops_cons, ↓eval_tmp, ↓put_some, ↓bK_b, ↓binE_i, ↓bi_lss, ↓op_bin, List.getD_cons_zero, List.getD_cons_succ, List.set_cons_zero, List.set_cons_succ, Nat.reduceAdd, Nat.reduceSub, Nat.reduceMul, List.replicate, evK_go, reduceIte, Nat.reduceEqDiff, Nat.reduceLT, List.foldl_cons, List.foldl_nil, Int.ofNat_lt]
        refine cdK_dec (fun h8 => ?_) (fun h8 => ?_)
        · have hiH : i < H.length := by omega
          have hiA : i < A.length := by omega
          have hji := hHx _ (getD_mem hiH)
          obtain ⟨hx1, hx2, hx3⟩ := hA.row h8
          have hxm := hA.mem h8 hji
          have hxi := hA.rk_lt h8 hji
          have hstI : stbI A B H i = ((A.getD i default).take ((A.getD i default).idxOf (H.getD i default))).all fun b => !decide ((B.getD b default).idxOf i < (B.getD b default).idxOf (H.idxOf b)) := rfl
          unfold rk at hxi
          have hxx : (A.getD i default).length < 2 ^ 62 := by omega
          generalize hxd : A.getD i default = x at hx1 hx2 hx3 hxm hxi hxx hstI
          generalize hjd : H.getD i default = j at hji hxm hxi hstI
          simp (implicitDefEqProofs := false) (dsimp := false) only [hiH, hiA, hxd, hjd, lnR, nD, indexN_callQ, hxm, hxx, ↓atK_H, ↓atH_map, ↓aw_seq, ↓aw_block, ↓aw_skip, ↓aw_loop, ↓aw_reg, ↓aw_draw, ↓Qseq_n, ↓ops_nil, ↓ops_cons, ↓eval_tmp, ↓eval_int, ↓eval_func, ↓put_some, ↓iK_i, ↓lenK_l, ↓ev_move, ↓ev_load, ↓ev_ia, ↓ev_slice, ↓optI_none, ↓optI_some, ↓ev_len, ↓ldK_q, ↓iaK_l, ↓sliK_l, ↓op_move, ↓op_assign, ↓op_load, ↓op_ia, isD_d, ↓fnK_f, ↓callKQ_H, ↓allT_nil, ↓allT_cons, ↓td_d, ↓draw_H, ↓h_nil, ↓h_cons, ↓ldH_n, ↓q_call, ↓q_bi, ↓q_move, ↓q_load, ↓q_ia, ↓q_slice, ↓il_move, ↓il_load, ↓il_ia, ↓il_slice, ↓il_call, ↓il_len, ↓cells_c, ↓cells_l, ↓hd_cons, ↓ty3, ↓ty24, ↓sl24, ↓sl69, List.getD_cons_zero, List.getD_cons_succ, List.set_cons_zero, List.set_cons_succ, List.append_nil, List.length_cons, List.length_nil, List.length_map, List.all_cons, List.all_nil, Bool.true_and, Bool.and_self, Bool.true_or, Nat.reduceAdd, Nat.reduceSub, Nat.reduceMul, Nat.zero_add, Int.toNat_natCast, Int.toNat_zero, evK_go, reduceIte, Nat.reduceEqDiff, Nat.reduceLT, and_self, true_and, Option.getD_none, Option.getD_some, Int.zero_add, List.drop_zero, Int.ofNat_le, Int.natCast_nonneg]
          refine OrH.l ⟨DrawH.of follows_mixed (by kernel_rfl), OrH.l (OrH.l ⟨⟨by omega, by omega⟩, fun y hy => ?_, ?_⟩)⟩
          · obtain ⟨q, _, rfl⟩ := List.mem_map.1 hy
            rfl
          have hTl : (x.take (x.idxOf j)).length = x.idxOf j := by rw [List.length_take]; omega
          have hTm : ∀ y ∈ x.take (x.idxOf j), y < p := fun y hy => hx3 y (List.mem_of_mem_take hy)
          rw [← List.map_take]
          generalize x.take (x.idxOf j) = T at hTl hTm hstI ⊢
          generalize x.idxOf j = z at hTl hxi ⊢
          refine loopW (fun t : Nat => { tm := slots 88 [(0, .d (.l (A.map lnR))), (1, .d (.l (B.map lnR))), (2, .d (.l (H.map nD))), (11, .d (I .i64 i)), (48, .d (.l (H.map nD))), (49, .d (I .i64 (p : Int))), (50, .d (I .i64 i)), (65, .d (.l (T.map nD))), (66, .d (I .i64 (z : Int))), (67, .d (I .i64 t))], bx := [], rw := [] })
            (fun t => t ≤ z ∧ (T.take t).all (fun b => !decide ((B.getD b default).idxOf i < (B.getD b default).idxOf (H.idxOf b))) = true) (fun t => z - t) 0 ⟨by simp, by simp⟩ ?_ ?_
          · refine Wkn.of [] [] ?_
            simp (implicitDefEqProofs := false) (dsimp := false) only [hTl, List.set_cons_zero, List.set_cons_succ, List.length_map, Bool.and_self, Nat.reduceAdd, Nat.reduceSub, Nat.reduceMul, List.replicate, evK_go, reduceIte, Nat.reduceEqDiff, Nat.reduceLT, and_self, List.foldl_cons, List.foldl_nil, Int.cast_ofNat_Int, slots, wkL_nil, wkL_cons, wkB_nil, wkR_nil, wkV_j, wkV_d, frz_d, reduceCtorEq]
          · rintro t ⟨ht, hta⟩
            simp (implicitDefEqProofs := false) (dsimp := false) only [slots, ↓aw_cond, ↓aw_seq, ↓aw_reg, ↓Qseq_n, ↓ops_nil, ↓ops_cons, ↓eval_tmp, ↓put_some, ↓bK_b, ↓binE_i, ↓bi_lss, ↓op_bin, List.getD_cons_zero, List.getD_cons_succ, List.set_cons_zero, List.set_cons_succ, Nat.reduceAdd, Nat.reduceSub, Nat.reduceMul, List.replicate, evK_go, reduceIte, Nat.reduceEqDiff, Nat.reduceLT, List.foldl_cons, List.foldl_nil, Int.ofNat_lt]
            refine cdK_dec (fun h9 => ?_) (fun h9 => ?_)
            · have htT : t < T.length := by omega
              have hcb := hTm _ (getD_mem htT)
              have hts := take_succ_getD htT
              generalize hcd : T.getD t default = c at hcb hts
              have hcB : c < B.length := by omega
              have hcH := hHm c hcb
              have hk : H.idxOf c < p := by have := List.idxOf_lt_length_of_mem hcH; omega
              have hiB := hB.mem hcb h8
              have hkB := hB.mem hcb hk
              have hH62 : H.length < 2 ^ 62 := by omega
              have hB62 : (B.getD c default).length < 2 ^ 62 := by rw [(hB.row hcb).1]; omega
              simp (implicitDefEqProofs := false) (dsimp := false) only [htT, hcd, hcB, lnR, nD, indexN_callQ, hiB, hkB, hcH, hH62, hB62, ↓atK_H, ↓atH_map, ↓aw_cond, ↓aw_seq, ↓aw_block, ↓aw_skip, ↓aw_reg, ↓aw_draw, ↓Qseq_n, ↓ops_nil, ↓ops_cons, ↓eval_tmp, ↓eval_func, ↓put_some, ↓bK_b, ↓iK_i, ↓ev_move, ↓ev_load, ↓ev_bin, ↓ev_ia, ↓binE_i, ↓bi_lss, ↓ldK_q, ↓iaK_l, ↓op_assign, ↓op_load, ↓op_ia, isD_d, ↓fnK_f, ↓callKQ_H, ↓allT_nil, ↓allT_cons, ↓td_d, ↓draw_H, ↓h_nil, ↓h_cons, ↓ldH_n, ↓q_call, ↓q_move, ↓q_load, ↓q_bin, ↓q_ia, ↓il_move, ↓il_load, ↓il_bin, ↓il_ia, ↓il_call, ↓cells_c, ↓cells_l, ↓hd_cons, ↓ty3, ↓ty24, ↓sl24, ↓sl69, List.getD_cons_zero, List.getD_cons_succ, List.set_cons_zero, List.set_cons_succ, List.append_nil, List.length_cons, List.length_nil, List.all_cons, List.all_nil, Bool.true_and, Bool.and_self, Bool.true_or, Nat.reduceAdd, Nat.reduceSub, Nat.reduceMul, Nat.zero_add, Int.toNat_natCast, evK_go, reduceIte, Nat.reduceEqDiff, Nat.reduceLT, and_self, true_and, Int.zero_add, Int.ofNat_lt, Int.natCast_nonneg]
              refine OrH.l ⟨DrawH.of follows_mixed (by kernel_rfl), ?_⟩
              (repeat refine OrH.l ?_)
              refine cdK_dec (fun h10 => ?_) (fun h10 => ?_)
              · have hs : stbL A B H = false := by
                  rw [← Bool.not_eq_true]
                  intro hq
                  have h11 := List.all_eq_true.1 hq i (by simp; omega)
                  rw [hstI] at h11
                  have h12 := List.all_eq_true.1 h11 c (hcd ▸ getD_mem htT)
                  rw [decide_eq_true (by omega)] at h12
                  cases h12
                simp (implicitDefEqProofs := false) (dsimp := false) only [hs, eval_nilI, ↓aw_seq, ↓aw_ret, ↓aw_reg, ↓Qseq_n, ↓Qseq_r, ↓Qblk_r, ↓Qret_r, ↓ops_nil, ↓ops_cons, ↓eval_tmp, ↓eval_bool, ↓put_some, ↓op_assign, ↓td_d, ↓ret_2, List.getD_cons_zero, List.getD_cons_succ, List.set_cons_zero, List.set_cons_succ, Nat.reduceAdd, Nat.reduceSub, Nat.reduceMul, evK_go, reduceIte, Nat.reduceEqDiff, Nat.reduceLT]
                rfl
              · simp (implicitDefEqProofs := false) (dsimp := false) only [↓aw_skip, ↓aw_reg, ↓Qseq_n, ↓Qblk_n, ↓ops_nil, ↓ops_cons, ↓eval_tmp, ↓eval_int, ↓put_some, ↓binE_i, ↓bi_add, ↓in_i64, ↓op_move, ↓op_bin, List.getD_cons_zero, List.getD_cons_succ, List.set_cons_zero, List.set_cons_succ, Nat.reduceAdd, Nat.reduceSub, Nat.reduceMul, evK_go, reduceIte, Nat.reduceEqDiff, Nat.reduceLT]
                refine ⟨by omega, t + 1, ⟨by omega, ?_⟩, by omega, ?_⟩
                · rw [hts, List.all_append, hta, List.all_cons, List.all_nil, Bool.and_true, Bool.true_and, decide_eq_false (by omega)]
                  rfl
                · refine Wkn.of [] [] ?_; simp (implicitDefEqProofs := false) (dsimp := false) only [List.set_cons_zero, List.set_cons_succ, Bool.and_self, Nat.reduceAdd, Nat.reduceSub, Nat.reduceMul, List.replicate, evK_go, reduceIte, Nat.reduceEqDiff, Nat.reduceLT, and_self, List.foldl_cons, List.foldl_nil, Int.cast_ofNat_Int, Int.natCast_add, slots, wkL_nil, wkL_cons, wkB_nil, wkR_nil, wkV_j, wkV_d, frz_d, reduceCtorEq]
            · obtain rfl : t = z := by omega
              rw [List.take_of_length_le (by omega)] at hta
              simp (implicitDefEqProofs := false) (dsimp := false) only [eval_nilI, ↓aw_seq, ↓aw_exit, ↓aw_ret, ↓aw_reg, ↓Qseq_n, ↓Qseq_x, ↓Qblk_n, ↓Qblk_x, ↓Qret_r, ↓ops_nil, ↓ops_cons, ↓eval_tmp, ↓eval_int, ↓eval_bool, ↓put_some, ↓binE_i, ↓bi_add, ↓in_i64, ↓op_move, ↓op_assign, ↓op_bin, ↓td_d, ↓ret_2, List.getD_cons_zero, List.getD_cons_succ, List.set_cons_zero, List.set_cons_succ, Nat.reduceAdd, Nat.reduceSub, Nat.reduceMul, evK_go, reduceIte, decide_false, Nat.reduceEqDiff, Nat.reduceLT, Nat.lt_irrefl]
              refine ⟨by omega, i + 1, ⟨by omega, ?_⟩, by omega, ?_⟩
              · rw [List.range_succ, List.all_append, hall, List.all_cons, List.all_nil, Bool.and_true, Bool.true_and, hstI]
                exact hta
              · refine Wkn.of [] [] ?_; simp (implicitDefEqProofs := false) (dsimp := false) only [List.set_cons_zero, List.set_cons_succ, Bool.and_self, Nat.reduceAdd, Nat.reduceSub, Nat.reduceMul, List.replicate, evK_go, reduceIte, Nat.reduceEqDiff, Nat.reduceLT, and_self, List.foldl_cons, List.foldl_nil, Int.cast_ofNat_Int, Int.natCast_add, slots, wkL_nil, wkL_cons, wkB_nil, wkR_nil, wkV_j, wkV_d, frz_d, reduceCtorEq]
        · obtain rfl : i = p := by omega
          have hs : stbL A B H = true := by unfold stbL; rw [hHl]; exact hall
          simp (implicitDefEqProofs := false) (dsimp := false) only [hs, eval_nilI, ↓aw_seq, ↓aw_exit, ↓aw_ret, ↓aw_reg, ↓Qseq_n, ↓Qseq_x, ↓Qblk_x, ↓Qret_r, ↓ops_nil, ↓ops_cons, ↓eval_tmp, ↓eval_bool, ↓put_some, ↓op_assign, ↓td_d, ↓ret_2, List.getD_cons_zero, List.getD_cons_succ, List.set_cons_zero, List.set_cons_succ, Nat.reduceAdd, Nat.reduceSub, Nat.reduceMul, evK_go, reduceIte, decide_false, Nat.reduceEqDiff, Nat.reduceLT, Nat.lt_irrefl]
          rfl
theorem sis_call (L R : List (List Int)) (h : List Int) (pure : Bool) (σ : St) (dst : Option Tmp) (K : St → Prop) : CallH Tryd.prog 64 [.l (L.map liD), .l (R.map liD), .l (h.map (I .i64))] pure σ dst (.mk : Hid K) = OrH ((((L.length < 2 ^ 62 ∧ ∀ x ∈ L, x.length < 2 ^ 62) ∧ R.length < 2 ^ 62 ∧ ∀ x ∈ R, x.length < 2 ^ 62) ∧ h.length < 2 ^ 62) ∧ (pure || D.flat (.t [Bo (isB L R h), erD (isE L R h)])) = true ∧ evK (σ.put dst (.d (.t [Bo (isB L R h), erD (isE L R h)]))) (.mk : Hid K)) (.mk : Hid (CallH Tryd.prog 64 [.l (L.map liD), .l (R.map liD), .l (h.map (I .i64))] pure σ dst (.mk : Hid K))) := CallH.eq (sis_spec L R h) pure σ dst K
theorem sis_callQ (L R : List (List Int)) (h : List Int) (pure : Bool) (C : V → Prop) : CallQ Tryd.prog 64 [.l (L.map liD), .l (R.map liD), .l (h.map (I .i64))] pure (.mk : Hid C) = OrH ((((L.length < 2 ^ 62 ∧ ∀ x ∈ L, x.length < 2 ^ 62) ∧ R.length < 2 ^ 62 ∧ ∀ x ∈ R, x.length < 2 ^ 62) ∧ h.length < 2 ^ 62) ∧ (pure || D.flat (.t [Bo (isB L R h), erD (isE L R h)])) = true ∧ evK (V.d (.t [Bo (isB L R h), erD (isE L R h)])) (.mk : Hid C)) (.mk : Hid (CallQ Tryd.prog 64 [.l (L.map liD), .l (R.map liD), .l (h.map (I .i64))] pure (.mk : Hid C))) := CallQ.eq (sis_spec L R h) pure C
end Go.Proofs

namespace Go.Proofs
open Go.Aw
set_option linter.unusedSimpArgs false
set_option maxRecDepth 10000
def solveO (n : Int) (l : List OrT) : Option (List Bool) := solve n.toNat (clN l)
def solveE (n : Int) (l : List OrT) : Int := if ockE n l = 0 then (if (solveO n l).isSome then 0 else 5) else ockE n l
def solveR (n : Int) (l : List OrT) : List Bool := if ockE n l = 0 then (solveO n l).getD [] else []
theorem ock_ok {n : Int} {l : List OrT} (h : ockE n l = 0) : (1 ≤ n ∧ n ≤ 4) ∧ l.length ≤ 20 ∧ OrsIn n.toNat l := by
  unfold ockE at h
  split at h
  · cases h
  rename_i h1
  have hn : 1 ≤ n ∧ n ≤ 4 := by simpa [inB] using h1
  split at h
  · cases h
  rename_i h2
  refine ⟨hn, by omega, fun o ho => ?_⟩
  have := firstE_zero h o ho
  unfold orE at this
  split at this
  · cases this
  rename_i h3
  have h4 : 0 ≤ o.1.1 ∧ o.1.1 ≤ n - 1 ∧ 0 ≤ o.2.1 ∧ o.2.1 ≤ n - 1 := by simpa [inB] using h3
  omega
/-- The two turns of a name's round: the set, is it said, the answers. -/
def svP (k i : Nat) : Nat := if i = 0 then 2 * k + 1 else 2 * k
def sv (n : Nat) (L : List (Nat × Nat)) (k s : Nat) (o : List Bool) : Nat → Nat × Bool × List Bool
  | 0 => (s, false, o)
  | i + 1 => if (!(sv n L k s o i).2.1 && fitsB n ((sv n L k s o i).1 ||| rs (2 * n) L (svP k i))) = true then ((sv n L k s o i).1 ||| rs (2 * n) L (svP k i), true, (sv n L k s o i).2.2.set k (decide (i = 1))) else sv n L k s o i
theorem sv_two (n : Nat) (L : List (Nat × Nat)) (k s : Nat) (o : List Bool) : sv n L k s o 2 = match solveI n L k s with
    | none => (s, false, o)
    | some (s', b) => (s', true, o.set k b) := by
  unfold solveI
  have h1 : sv n L k s o 1 = if fitsB n (s ||| rs (2 * n) L (2 * k + 1)) = true then (s ||| rs (2 * n) L (2 * k + 1), true, o.set k false) else (s, false, o) := by
    simp [sv, svP]
  rw [sv, h1]
  by_cases f1 : fitsB n (s ||| rs (2 * n) L (2 * k + 1)) = true
  · simp [f1]
  · by_cases f2 : fitsB n (s ||| rs (2 * n) L (2 * k)) = true
    · simp [f1, f2, svP]
    · simp [f1, f2, svP]
theorem solveN_len {n : Nat} {L : List (Nat × Nat)} : ∀ {k s : Nat} {o : List Bool}, solveN n L k = some (s, o) → o.length = k := by
  intro k
  induction k with
  | zero => intro s o h; cases h; rfl
  | succ k ih =>
    intro s o h
    unfold solveN at h
    cases e : solveN n L k with
    | none => rw [e] at h; cases h
    | some so =>
      obtain ⟨s0, o0⟩ := so
      rw [e] at h
      simp only at h
      cases e2 : solveI n L k s0 with
      | none => rw [e2] at h; cases h
      | some sb => obtain ⟨s1, b⟩ := sb; rw [e2] at h; cases h; simp [ih e]
theorem solveN_up {n : Nat} {L : List (Nat × Nat)} {k : Nat} (h : solveN n L k = none) : ∀ m, k ≤ m → solveN n L m = none := by
  intro m hm
  induction m with
  | zero => obtain rfl : k = 0 := by omega
            exact h
  | succ m ih =>
    by_cases e : k = m + 1
    · subst e; exact h
    · unfold solveN; rw [ih (by omega)]
theorem sv_len (n : Nat) (L : List (Nat × Nat)) (k s : Nat) (o : List Bool) (i : Nat) : (sv n L k s o i).2.2.length = o.length := by
  induction i with
  | zero => rfl
  | succ i ih => rw [sv]; split <;> simp [ih]
theorem sv_lt {n : Nat} {L : List (Nat × Nat)} {k s : Nat} {o : List Bool} (hs : s < 2 ^ 64) (hr : ∀ p, p < 2 * n → rs (2 * n) L p < 2 ^ 64) (hk : k < n) : ∀ i, (sv n L k s o i).1 < 2 ^ 64 := by
  intro i
  induction i with
  | zero => exact hs
  | succ i ih =>
    rw [sv]
    split
    · exact Nat.or_lt_two_pow ih (hr _ (by unfold svP; split <;> omega))
    · exact ih
theorem psolve_spec (n : Int) (l : List OrT) (hpre : l.length < 2 ^ 62) : FnD Tryd.prog 36 [I .i64 n, .l (l.map orD)] (.t [.l ((solveR n l).map Bo), erD (solveE n l)]) := by
  refine FnD.go Tryd.func36 rfl rfl Tryd.results36 Tryd.ntmps36 ?_
  simp (implicitDefEqProofs := false) (dsimp := false) only [↓nthK_H, ↓nthH_zero, ↓aw_seq, ↓aw_reg, ↓Qseq_n, ↓ops_nil, ↓ops_cons, ↓eval_tmp, ↓eval_nil, ↓eval_func, ↓put_some, ↓ldK_p, ↓op_move, ↓op_assign, ↓op_load, ↓op_call, ↓op_box, isD_d, ↓fnK_f, ↓call_H, ↓callK_H, ↓allT_nil, ↓allT_cons, ↓td_d, ↓addBox_mk, ↓st_bx, ↓vcells_c, ↓one_i, ↓vone_d, ↓ty3, List.getD_cons_zero, List.getD_cons_succ, List.set_cons_zero, List.set_cons_succ, List.cons_append, List.nil_append, List.append_nil, List.map_cons, List.map_nil, List.length_cons, List.length_nil, List.all_cons, List.all_nil, Bool.true_and, Bool.and_self, Nat.reduceAdd, Nat.reduceSub, Nat.reduceMul, Nat.zero_add, List.replicate, evK_go, reduceIte, Nat.reduceEqDiff, Nat.reduceLT, and_self, true_and, Int.zero_add]
  simp (implicitDefEqProofs := false) (dsimp := false) only [ocheck_call, eval_nilI, ↓er_neq, er_flat, ↓cdK_not, ↓aw_cond, ↓aw_seq, ↓aw_reg, ↓Qseq_n, ↓ops_nil, ↓ops_cons, ↓eval_tmp, ↓put_some, ↓bK_b, ↓op_move, ↓op_assign, ↓op_bin, List.getD_cons_zero, List.getD_cons_succ, List.set_cons_zero, List.set_cons_succ, Bool.true_and, Bool.or_true, Nat.reduceAdd, Nat.reduceSub, Nat.reduceMul, evK_go, reduceIte, Nat.reduceEqDiff, Nat.reduceLT, true_and]
  refine OrH.l (OrH.l ⟨hpre, ?_⟩)
  refine cdK_dec (fun hc => ?_) (fun hc => ?_)
  rotate_left
  · have e1 : solveR n l = [] := if_neg hc
    have e2 : solveE n l = ockE n l := if_neg hc
    simp (implicitDefEqProofs := false) (dsimp := false) only [e1, e2, ↓aw_seq, ↓aw_ret, ↓aw_reg, ↓Qseq_n, ↓Qseq_r, ↓Qret_r, ↓ops_nil, ↓ops_cons, ↓eval_tmp, ↓eval_nil, ↓put_some, ↓op_move, ↓op_assign, ↓td_d, ↓td_nl, ↓ret_2, List.getD_cons_zero, List.getD_cons_succ, List.set_cons_zero, List.set_cons_succ, List.map_nil, Nat.reduceAdd, Nat.reduceSub, Nat.reduceMul, evK_go, reduceIte, Nat.reduceEqDiff, Nat.reduceLT]
  obtain ⟨hn, hl, hin⟩ := ock_ok hc
  have e1 : solveR n l = (solve n.toNat (clN l)).getD [] := if_pos hc
  have e2 : solveE n l = if (solve n.toNat (clN l)).isSome then 0 else 5 := if_pos hc
  rw [e1, e2]
  clear e1 e2
  obtain ⟨m, rfl⟩ : ∃ m : Nat, n = (m : Int) := ⟨n.toNat, by omega⟩
  rw [Int.toNat_natCast] at *
  have hfo : m ≤ 4 ∧ l.length < 2 ^ 40 ∧ OrsIn m l := ⟨by omega, by omega, hin⟩
  have c2 : (2 : Int) * (m : Int) = ((2 * m : Nat) : Int) := by omega
  have hm64 : 2 * m < 64 := by omega
  simp (implicitDefEqProofs := false) (dsimp := false) only [c2, hm64, follows_call, hfo, below_call, rflat_U, ↓nthK_H, ↓nthH_zero, ↓aw_seq, ↓aw_block, ↓aw_skip, ↓aw_loop, ↓aw_reg, ↓Qseq_n, ↓ops_nil, ↓ops_cons, ↓eval_tmp, ↓eval_int, ↓eval_func, ↓put_some, ↓iK_i, ↓dK_d, ↓capsK_nil, ↓capsK_cons, ↓binE_i, ↓bi_mul, ↓in_i64, ↓ldK_p, ↓op_move, ↓op_assign, ↓op_load, ↓op_bin, ↓op_func, ↓op_call, ↓op_make, isD_d, ↓fnK_f, ↓call_H, ↓callK_H, ↓allT_nil, ↓allT_cons, ↓td_d, ↓addRow_mk, ↓st_rw, ↓cells_c, ↓vcells_c, ↓one_b, constV_b, ↓mk_, ↓vsz_bool, ↓ty3, ↓ty4, ↓zb4, ↓sl46, List.getD_cons_zero, List.getD_cons_succ, List.set_cons_zero, List.set_cons_succ, List.cons_append, List.nil_append, List.append_nil, List.map_cons, List.map_nil, List.length_cons, List.length_nil, List.length_map, List.all_cons, List.all_nil, Bool.and_true, Bool.true_and, Bool.and_self, Bool.or_true, Bool.true_or, Nat.reduceAdd, Nat.reduceSub, Nat.reduceMul, Nat.zero_add, Int.toNat_natCast, evK_go, reduceIte, Nat.reduceEqDiff, Nat.reduceLT, and_self, true_and, and_true, Int.zero_add, Int.natCast_nonneg]
  (repeat refine OrH.l ?_)
  refine ⟨by omega, ?_⟩
  (repeat refine OrH.l ?_)
  refine ⟨⟨by omega, by decide⟩, ?_⟩
  have hgo := imp_good (clN_good hin)
  have hrs : ∀ p, p < 2 * m → rs (2 * m) (impL (clN l)) p < 2 ^ 64 := fun p hp => rs_lt (by omega) hgo hp
  have hrl := outS_len (2 * m) (impL (clN l))
  have hrx := outS_lt' (n := 2 * m) (by omega) hgo
  have hre : ∀ p, p < 2 * m → reach (outS (2 * m) (impL (clN l))) (2 ^ (2 * m) - 1) p = rs (2 * m) (impL (clN l)) p := fun p _ => rfl
  unfold solve
  clear hc hfo hin hgo
  generalize impL (clN l) = L at *
  generalize hN : outS (2 * m) L = next at *
  simp (implicitDefEqProofs := false) (dsimp := false) only [hrl]
  refine loopW (fun x : Nat × Nat × List Bool => { tm := slots 72 [(2, .p 0 0), (7, .o 0 0 (2 * m)), (8, .d (U (2 ^ (2 * m) - 1))), (9, .fp (.func 89) [0]), (10, .d (U x.2.1)), (11, .o 1 0 m), (32, .d (I .i64 (m : Int))), (33, .d (I .i64 x.1))], bx := [.d (I .i64 (m : Int))], rw := [some ⟨1, next.map U⟩, some ⟨1, (x.2.2 ++ List.replicate (m - x.1) false).map Bo⟩] })
    (fun x => x.1 ≤ m ∧ x.2.1 < 2 ^ 64 ∧ solveN m L x.1 = some x.2) (fun x => m - x.1) (0, 0, []) ⟨by simp, by decide, rfl⟩ ?_ ?_
  · refine Wkn.of [0] [some 0, some 1] ?_
    simp (implicitDefEqProofs := false) (dsimp := false) only [↓vcells_c, List.getD_cons_zero, List.getD_cons_succ, List.set_cons_zero, List.set_cons_succ, List.nil_append, List.map_cons, List.map_nil, List.length_cons, List.length_nil, Bool.and_true, Bool.true_and, Bool.and_self, Bool.or_false, Nat.reduceAdd, Nat.reduceSub, Nat.reduceMul, Nat.zero_add, List.replicate, evK_go, reduceIte, Nat.reduceEqDiff, Nat.reduceLT, and_self, true_and, and_true, Int.zero_add, List.foldl_cons, List.foldl_nil, Int.cast_ofNat_Int, slots, wkL_nil, wkL_cons, wkB_nil, wkB_cons, wkR_nil, wkR_some, wkV_j, wkV_d, wkV_o, wkV_p, wkV_fp, frz_d, oK_zs, oK_s, pK_z, dc_eq, reduceCtorEq, List.mem_cons, List.not_mem_nil, or_false, Option.some.injEq]
    exact ⟨fun b hb => by omega, by simp⟩
  · rintro ⟨k, s, o⟩ ⟨hk, hs, hso⟩
    simp only at hk hs hso
    simp (implicitDefEqProofs := false) (dsimp := false) only [slots, ↓aw_cond, ↓aw_seq, ↓aw_reg, ↓Qseq_n, ↓ops_nil, ↓ops_cons, ↓eval_tmp, ↓put_some, ↓bK_b, ↓binE_i, ↓bi_lss, ↓op_bin, List.getD_cons_zero, List.getD_cons_succ, List.set_cons_zero, List.set_cons_succ, Nat.reduceAdd, Nat.reduceSub, Nat.reduceMul, List.replicate, evK_go, reduceIte, Nat.reduceEqDiff, Nat.reduceLT, List.foldl_cons, List.foldl_nil, Int.ofNat_lt]
    refine cdK_dec (fun h => ?_) (fun h => ?_)
    · have hkm : k < m := by omega
      have hol : (o ++ List.replicate (m - k) false).length = m := by
        simp [solveN_len hso]; omega
      have c3 : (2 : Int) * (k : Int) + 1 = ((2 * k + 1 : Nat) : Int) := by omega
      have c4 : (2 : Int) * (k : Int) = ((2 * k : Nat) : Int) := by omega
      simp (implicitDefEqProofs := false) (dsimp := false) only [h, ↓aw_seq, ↓aw_block, ↓aw_skip, ↓aw_loop, ↓aw_reg, ↓Qseq_n, ↓ops_nil, ↓ops_cons, ↓eval_tmp, ↓eval_int, ↓eval_bool, ↓put_some, ↓dK_d, ↓binE_i, ↓bi_add, ↓bi_mul, ↓in_i64, ↓op_move, ↓op_assign, ↓op_bin, ↓op_build, ↓cells_c, ↓one_i, ↓bd114, List.getD_cons_zero, List.getD_cons_succ, List.set_cons_zero, List.set_cons_succ, List.cons_append, List.nil_append, List.length_cons, List.length_nil, List.all_cons, List.all_nil, Bool.true_and, Bool.and_self, Nat.reduceAdd, Nat.reduceSub, Nat.reduceMul, Nat.zero_add, evK_go, reduceIte, decide_true, Nat.reduceEqDiff, Nat.reduceLT, and_self, true_and, Int.zero_add]
      refine ⟨by omega, by omega, ?_⟩
      simp (implicitDefEqProofs := false) (dsimp := false) only [c4, Nat.reduceAdd, Nat.reduceSub, Nat.reduceMul, evK_go, reduceIte, Nat.reduceEqDiff, Nat.reduceLT]
      refine ⟨by omega, ?_⟩
      refine loopW (fun i : Nat => { tm := slots 72 [(2, .p 0 0), (7, .o 0 0 (2 * m)), (8, .d (U (2 ^ (2 * m) - 1))), (9, .fp (.func 89) [0]), (10, .d (U (sv m L k s (o ++ List.replicate (m - k) false) i).1)), (11, .o 1 0 m), (12, .d (I .i64 (k : Int))), (13, .d (Bo (sv m L k s (o ++ List.replicate (m - k) false) i).2.1)), (32, .d (I .i64 (m : Int))), (33, .d (I .i64 (k : Int))), (41, .d (.s [I .i64 (((2 * k : Nat) : Int) + 1), I .i64 ((2 * k : Nat) : Int)])), (42, .d (I .i64 (i : Int)))], bx := [.d (I .i64 (m : Int))], rw := [some ⟨1, next.map U⟩, some ⟨1, (sv m L k s (o ++ List.replicate (m - k) false) i).2.2.map Bo⟩] })
        (fun i => i ≤ 2) (fun i => 2 - i) 0 (by simp) ?_ ?_
      · refine Wkn.of [0] [some 0, some 1] ?_
        simp (implicitDefEqProofs := false) (dsimp := false) only [sv, ↓vcells_c, List.getD_cons_zero, List.getD_cons_succ, List.set_cons_zero, List.set_cons_succ, List.map_cons, List.map_nil, List.length_cons, List.length_nil, Bool.and_true, Bool.true_and, Bool.and_self, Bool.or_false, Nat.reduceAdd, Nat.reduceSub, Nat.reduceMul, Nat.zero_add, List.replicate, evK_go, reduceIte, Nat.reduceEqDiff, Nat.reduceLT, and_self, true_and, and_true, Int.zero_add, List.foldl_cons, List.foldl_nil, Int.cast_ofNat_Int, slots, wkL_nil, wkL_cons, wkB_nil, wkB_cons, wkR_nil, wkR_some, wkV_j, wkV_d, wkV_o, wkV_p, wkV_fp, frz_d, oK_zs, oK_s, pK_z, reduceCtorEq, List.mem_cons, List.not_mem_nil, or_false]
        exact fun b hb => by omega
      · intro i hi
        simp (implicitDefEqProofs := false) (dsimp := false) only [slots, ↓aw_cond, ↓aw_seq, ↓aw_reg, ↓Qseq_n, ↓ops_nil, ↓ops_cons, ↓eval_tmp, ↓eval_int, ↓put_some, ↓bK_b, ↓binE_i, ↓bi_lss, ↓op_bin, List.getD_cons_zero, List.getD_cons_succ, List.set_cons_zero, List.set_cons_succ, Nat.reduceAdd, Nat.reduceSub, Nat.reduceMul, List.replicate, evK_go, reduceIte, Nat.reduceEqDiff, Nat.reduceLT, List.foldl_cons, List.foldl_nil]
        refine cdK_dec (fun h2 => ?_) (fun h2 => ?_)
        · have hi2 : i < 2 := by omega
          have hS : [I .i64 (((2 * k : Nat) : Int) + 1), I .i64 ((2 * k : Nat) : Int)][i]? = some (I .i64 ((svP k i : Nat) : Int)) := by
            match i, hi2 with
            | 0, _ => rfl
            | 1, _ => rfl
          simp (implicitDefEqProofs := false) (dsimp := false) only [↓atK_H, ↓aw_seq, ↓aw_block, ↓aw_skip, ↓aw_reg, ↓Qseq_n, ↓ops_cons, ↓eval_tmp, ↓iK_i, ↓sK_s, ↓op_index, ↓ty3, ↓ar114, List.getD_cons_zero, List.getD_cons_succ, Bool.true_and, Nat.reduceAdd, Nat.reduceSub, Nat.reduceMul, Int.toNat_natCast, evK_go, reduceIte, Nat.reduceEqDiff, Nat.reduceLT, true_and, Int.cast_ofNat_Int, Int.natCast_nonneg]
          refine ⟨by omega, atH_of _ hS ?_⟩
          have e3 : List.take (2 * m) (List.map U next) = List.map U next := List.take_of_length_le (by simp [hrl])
          have hp : svP k i < next.length := by unfold svP; split <;> omega
          have hp2 := hre (svP k i) (by omega)
          have hn64 : next.length ≤ 64 := by omega
          have hw : 2 ^ (2 * m) - 1 < 2 ^ next.length := by rw [hrl]; have := Nat.two_pow_pos (2 * m); omega
          have hs64 := sv_lt (o := o ++ List.replicate (m - k) false) hs hrs hkm i
          have hr64 := hrs (svP k i) (by omega)
          have hsl := sv_len m L k s (o ++ List.replicate (m - k) false) i
          have hsv : sv m L k s (o ++ List.replicate (m - k) false) (i + 1) = if (!(sv m L k s (o ++ List.replicate (m - k) false) i).2.1 && fitsB m ((sv m L k s (o ++ List.replicate (m - k) false) i).1 ||| rs (2 * m) L (svP k i))) = true then ((sv m L k s (o ++ List.replicate (m - k) false) i).1 ||| rs (2 * m) L (svP k i), true, (sv m L k s (o ++ List.replicate (m - k) false) i).2.2.set k (decide (i = 1))) else sv m L k s (o ++ List.replicate (m - k) false) i := rfl
          generalize sv m L k s (o ++ List.replicate (m - k) false) i = z at *
          obtain ⟨s1, ch, ob⟩ := z
          simp only at hs64 hsl hsv
          simp (implicitDefEqProofs := false) (dsimp := false) only [e3, ↓optK_some, ↓rwK_mk_, ↓aw_seq, ↓aw_reg, ↓Qseq_n, ↓ops_nil, ↓ops_cons, ↓eval_tmp, ↓eval_func, ↓put_some, ↓op_move, ↓op_assign, ↓op_call, isD_d, isD_o, ↓fnK_f, ↓call_H, ↓callK_H, ↓allT_nil, ↓allT_cons, ↓td_d, ↓td_o, ↓row_xs, List.getD_cons_zero, List.getD_cons_succ, List.set_cons_zero, List.set_cons_succ, List.append_nil, List.all_cons, List.all_nil, Bool.and_true, Bool.and_self, Bool.and_false, Nat.reduceAdd, Nat.reduceSub, Nat.reduceMul, evK_go, reduceIte, Nat.reduceEqDiff, Nat.reduceLT, and_self, and_true, List.drop_zero]
          simp (implicitDefEqProofs := false) (dsimp := false) only [reach_call, hp, hn64, hw, hp2, ↓cdK_not, ↓gdK_t, ↓gval_mk, ↓gvL_zero, ↓gvL_succ, ↓aw_seq, ↓aw_reg, ↓Qseq_n, ↓ops_nil, ↓ops_cons, ↓ops_guard, ↓eval_tmp, ↓put_some, ↓bK_b, ↓binE_i, ↓bi_or, ↓op_move, ↓op_assign, ↓op_bin, ↓op_not, ↓st_tm, List.getD_cons_zero, List.getD_cons_succ, List.set_cons_zero, List.set_cons_succ, Bool.true_and, Bool.false_or, Nat.reduceAdd, Nat.reduceSub, Nat.reduceMul, evK_go, reduceIte, Nat.reduceEqDiff, Nat.reduceLT, true_and]
          generalize rs (2 * m) L (svP k i) = rp at *
          have hor : s1 ||| rp < 2 ^ 64 := Nat.or_lt_two_pow hs64 hr64
          (repeat refine OrH.l ?_)
          refine ⟨hrx, rfl, ⟨hs64, hr64⟩, ?_⟩
          cases ch with
          | true =>
            simp (implicitDefEqProofs := false) (dsimp := false) only [↓cdK_true, ↓cdK_false, ↓gdK_t, ↓gval_mk, ↓gvL_zero, ↓gvL_succ, ↓aw_cond, ↓aw_skip, ↓aw_reg, ↓Qseq_n, ↓Qblk_n, ↓ops_nil, ↓ops_cons, ↓ops_guard, ↓eval_tmp, ↓eval_int, ↓eval_bool, ↓put_some, ↓bK_b, ↓binE_i, ↓bi_add, ↓in_i64, ↓op_move, ↓op_pick, ↓op_bin, ↓st_tm, List.getD_cons_zero, List.getD_cons_succ, List.set_cons_zero, List.set_cons_succ, Nat.reduceAdd, Nat.reduceSub, Nat.reduceMul, evK_go, reduceIte, Bool.not_true, Nat.reduceEqDiff, Nat.reduceLT]
            refine ⟨by omega, i + 1, by omega, by omega, ?_⟩
            refine Wkn.of [0] [some 0, some 1] ?_
            rw [Bool.not_true, Bool.false_and, if_neg (by decide)] at hsv
            simp (implicitDefEqProofs := false) (dsimp := false) only [hsv, ↓vcells_c, List.getD_cons_zero, List.getD_cons_succ, List.set_cons_zero, List.set_cons_succ, List.map_cons, List.map_nil, List.length_cons, List.length_nil, Bool.and_true, Bool.true_and, Bool.and_self, Bool.or_false, Nat.reduceAdd, Nat.reduceSub, Nat.reduceMul, Nat.zero_add, List.replicate, evK_go, reduceIte, Nat.reduceEqDiff, Nat.reduceLT, and_self, true_and, and_true, Int.zero_add, List.foldl_cons, List.foldl_nil, Int.cast_ofNat_Int, Int.natCast_add, slots, wkL_nil, wkL_cons, wkB_nil, wkB_cons, wkR_nil, wkR_some, wkV_j, wkV_d, wkV_o, wkV_p, wkV_fp, frz_d, oK_zs, oK_s, pK_z, reduceCtorEq, List.mem_cons, List.not_mem_nil, or_false]
            exact fun b hb => by omega
          | false =>
            have hm8 : m ≤ 8 := by omega
            simp (implicitDefEqProofs := false) (dsimp := false) only [fits_call, hor, hm8, ↓cdK_true, ↓cdK_false, ↓gdK_t, ↓gval_mk, ↓gvL_zero, ↓gvL_succ, ↓aw_cond, ↓Qseq_n, ↓ops_nil, ↓ops_cons, ↓ops_guard, ↓eval_tmp, ↓put_some, ↓bK_b, ↓op_move, ↓op_pick, ↓op_call, isD_d, isD_fp, ↓fnK_f, ↓call_H, ↓callK_H, ↓allT_nil, ↓allT_cons, ↓td_d, ↓boxK_d, ↓td_fp, ↓bq_nil, ↓bq_cons, ↓st_tm, ↓cells_c, List.getD_cons_zero, List.getD_cons_succ, List.set_cons_zero, List.set_cons_succ, List.cons_append, List.nil_append, List.all_cons, List.all_nil, Bool.and_true, Bool.true_and, Bool.and_self, Bool.false_or, Nat.reduceAdd, Nat.reduceSub, Nat.reduceMul, evK_go, reduceIte, Bool.not_false, Nat.reduceEqDiff, Nat.reduceLT, and_self, true_and, and_true]
            (repeat refine OrH.l ?_)
            refine ⟨rfl, cdK_split (fun hf => ?_) (fun hf => ?_)⟩
            · have hkb : k < ob.length := by omega
              have hd : decide ((svP k i : Int) = ((2 * k : Nat) : Int)) = decide (i = 1) := by
                refine decide_eq_decide.2 ?_
                unfold svP
                split <;> omega
              rw [hf, Bool.not_false, Bool.true_and, if_pos rfl] at hsv
              simp (implicitDefEqProofs := false) (dsimp := false) only [c4, ↓optK_some, ↓rwK_mk_, ↓aw_seq, ↓aw_reg, ↓Qseq_n, ↓Qblk_n, ↓ops_nil, ↓ops_cons, ↓eval_tmp, ↓eval_int, ↓eval_bool, ↓put_some, ↓put_none, ↓iK_i, ↓dK_d, ↓binE_i, ↓bi_add, ↓bi_mul, ↓bi_eql, ↓in_i64, ↓iaK_o, ↓op_move, ↓op_assign, ↓op_bin, ↓op_ia, ↓op_store, ↓setRow_mk, ↓row_sz, ↓row_xs, ↓cells_c, ↓one_b, ↓st_e, ↓ty4, ↓sl46, List.getD_cons_zero, List.getD_cons_succ, List.set_cons_zero, List.set_cons_succ, List.length_cons, List.length_nil, List.all_cons, List.all_nil, Bool.true_and, Bool.and_self, Nat.reduceAdd, Nat.reduceSub, Nat.reduceMul, Nat.zero_add, Int.toNat_natCast, evK_go, reduceIte, Nat.reduceEqDiff, Nat.reduceLT, and_self, true_and, Int.zero_add, Int.ofNat_lt, Int.natCast_nonneg, Int.natCast_inj]
              refine ⟨by omega, by omega, by omega, i + 1, by omega, by omega, ?_⟩
              refine Wkn.of [0] [some 0, some 1] ?_
              have hd2 : decide (svP k i = 2 * k) = decide (i = 1) := by rw [← hd]; exact decide_eq_decide.2 (by omega)
              simp (implicitDefEqProofs := false) (dsimp := false) only [hsv, hd2, List.map_set, ↓vcells_c, List.getD_cons_zero, List.getD_cons_succ, List.set_cons_zero, List.set_cons_succ, List.map_cons, List.map_nil, List.length_cons, List.length_nil, Bool.and_true, Bool.true_and, Bool.and_self, Bool.or_false, Nat.reduceAdd, Nat.reduceSub, Nat.reduceMul, Nat.zero_add, List.replicate, evK_go, reduceIte, Nat.reduceEqDiff, Nat.reduceLT, and_self, true_and, and_true, Int.zero_add, List.foldl_cons, List.foldl_nil, Int.cast_ofNat_Int, Int.natCast_add, slots, wkL_nil, wkL_cons, wkB_nil, wkB_cons, wkR_nil, wkR_some, wkV_j, wkV_d, wkV_o, wkV_p, wkV_fp, frz_d, oK_zs, oK_s, pK_z, reduceCtorEq, List.mem_cons, List.not_mem_nil, or_false]
              exact fun b hb => by omega
            · rw [hf, Bool.and_false, if_neg (by decide)] at hsv
              simp (implicitDefEqProofs := false) (dsimp := false) only [↓aw_skip, ↓aw_reg, ↓Qseq_n, ↓Qblk_n, ↓ops_nil, ↓ops_cons, ↓eval_tmp, ↓eval_int, ↓put_some, ↓binE_i, ↓bi_add, ↓in_i64, ↓op_move, ↓op_bin, List.getD_cons_zero, List.getD_cons_succ, List.set_cons_zero, List.set_cons_succ, Nat.reduceAdd, Nat.reduceSub, Nat.reduceMul, evK_go, reduceIte, Nat.reduceEqDiff, Nat.reduceLT]
              refine ⟨by omega, i + 1, by omega, by omega, ?_⟩
              refine Wkn.of [0] [some 0, some 1] ?_
              simp (implicitDefEqProofs := false) (dsimp := false) only [hsv, ↓vcells_c, List.getD_cons_zero, List.getD_cons_succ, List.set_cons_zero, List.set_cons_succ, List.map_cons, List.map_nil, List.length_cons, List.length_nil, Bool.and_true, Bool.true_and, Bool.and_self, Bool.or_false, Nat.reduceAdd, Nat.reduceSub, Nat.reduceMul, Nat.zero_add, List.replicate, evK_go, reduceIte, Nat.reduceEqDiff, Nat.reduceLT, and_self, true_and, and_true, Int.zero_add, List.foldl_cons, List.foldl_nil, Int.cast_ofNat_Int, Int.natCast_add, slots, wkL_nil, wkL_cons, wkB_nil, wkB_cons, wkR_nil, wkR_some, wkV_j, wkV_d, wkV_o, wkV_p, wkV_fp, frz_d, oK_zs, oK_s, pK_z, reduceCtorEq, List.mem_cons, List.not_mem_nil, or_false]
              exact fun b hb => by omega
        · obtain rfl : i = 2 := by omega
          simp (implicitDefEqProofs := false) (dsimp := false) only [sv_two, eval_nilI, ↓cdK_not, ↓optK_some, ↓rwK_mk_, ↓aw_cond, ↓aw_seq, ↓aw_exit, ↓aw_ret, ↓aw_reg, ↓Qseq_n, ↓Qseq_x, ↓Qblk_x, ↓Qret_r, ↓ops_nil, ↓ops_cons, ↓eval_tmp, ↓eval_int, ↓put_some, ↓bK_b, ↓binE_i, ↓bi_add, ↓in_i64, ↓op_move, ↓op_assign, ↓op_bin, ↓op_not, ↓td_d, ↓td_o, ↓ret_2, ↓row_xs, List.getD_cons_zero, List.getD_cons_succ, List.set_cons_zero, List.set_cons_succ, Nat.reduceAdd, Nat.reduceSub, Nat.reduceMul, evK_go, reduceIte, Nat.reduceEqDiff, Nat.reduceLT, List.drop_zero, Int.cast_ofNat_Int]
          cases hI : solveI m L k s with
          | none =>
            have hno : solveN m L m = none := solveN_up (k := k + 1) (by unfold solveN; rw [hso]; simp (implicitDefEqProofs := false) (dsimp := false) only [hI]) m (by omega)
            rw [hno]
            simp (implicitDefEqProofs := false) (dsimp := false) only [↓cdK_false, ↓aw_seq, ↓aw_ret, ↓aw_reg, ↓Qseq_n, ↓Qseq_r, ↓Qblk_r, ↓Qret_r, ↓ops_nil, ↓ops_cons, ↓eval_tmp, ↓eval_int, ↓eval_nil, ↓put_some, ↓vK_c, ↓op_assign, ↓op_iface, ↓td_d, ↓td_nl, ↓ret_2, ↓nc108, List.getD_cons_zero, List.getD_cons_succ, List.set_cons_zero, List.set_cons_succ, Bool.true_and, Nat.reduceAdd, Nat.reduceSub, Nat.reduceMul, evK_go, reduceIte, Bool.not_false, Nat.reduceEqDiff, Nat.reduceLT, true_and]
            rfl
          | some sb =>
            obtain ⟨s', b⟩ := sb
            have hsm : solveN m L (k + 1) = some (s', o ++ [b]) := by unfold solveN; rw [hso]; simp (implicitDefEqProofs := false) (dsimp := false) only [hI]
            have hs' := sv_lt (o := o ++ List.replicate (m - k) false) hs hrs hkm 2
            rw [sv_two, hI] at hs'
            have hset : (o ++ List.replicate (m - k) false).set k b = (o ++ [b]) ++ List.replicate (m - (k + 1)) false := by
              have hl := solveN_len hso
              rw [List.set_append, if_neg (by omega), hl, Nat.sub_self]
              obtain ⟨q, hq⟩ : ∃ q, m - k = q + 1 := ⟨m - k - 1, by omega⟩
              rw [hq, show m - (k + 1) = q by omega]
              simp [List.replicate_succ]
            simp (implicitDefEqProofs := false) (dsimp := false) only [↓cdK_true, ↓aw_skip, ↓aw_reg, ↓Qseq_n, ↓Qblk_n, ↓ops_nil, ↓ops_cons, ↓eval_tmp, ↓eval_int, ↓put_some, ↓binE_i, ↓bi_add, ↓in_i64, ↓op_move, ↓op_bin, List.getD_cons_zero, List.getD_cons_succ, List.set_cons_zero, List.set_cons_succ, Nat.reduceAdd, Nat.reduceSub, Nat.reduceMul, evK_go, reduceIte, Bool.not_true, Nat.reduceEqDiff, Nat.reduceLT]
            refine ⟨by omega, ⟨k + 1, s', o ++ [b]⟩, ⟨by omega, hs', hsm⟩, by simp only; omega, ?_⟩
            refine Wkn.of [0] [some 0, some 1] ?_
            simp (implicitDefEqProofs := false) (dsimp := false) only [hset, ↓vcells_c, List.getD_cons_zero, List.getD_cons_succ, List.set_cons_zero, List.set_cons_succ, List.map_cons, List.map_nil, List.length_cons, List.length_nil, Bool.and_true, Bool.true_and, Bool.and_self, Bool.or_false, Nat.reduceAdd, Nat.reduceSub, Nat.reduceMul, Nat.zero_add, List.replicate, evK_go, reduceIte, Nat.reduceEqDiff, Nat.reduceLT, and_self, true_and, and_true, Int.zero_add, List.foldl_cons, List.foldl_nil, Int.cast_ofNat_Int, Int.natCast_add, slots, wkL_nil, wkL_cons, wkB_nil, wkB_cons, wkR_nil, wkR_some, wkV_j, wkV_d, wkV_o, wkV_p, wkV_fp, frz_d, oK_zs, oK_s, pK_z, reduceCtorEq, List.mem_cons, List.not_mem_nil, or_false]
            exact fun b hb => by omega
    · obtain rfl : k = m := by omega
      have hl := solveN_len hso
      rw [hso]
      simp (implicitDefEqProofs := false) (dsimp := false) only [Nat.sub_self, eval_nilI, ↓optK_some, ↓rwK_mk_, ↓aw_seq, ↓aw_exit, ↓aw_ret, ↓aw_reg, ↓Qseq_n, ↓Qseq_x, ↓Qblk_x, ↓Qret_r, ↓ops_nil, ↓ops_cons, ↓eval_tmp, ↓put_some, ↓op_move, ↓op_assign, ↓td_d, ↓td_o, ↓ret_2, ↓row_xs, List.getD_cons_zero, List.getD_cons_succ, List.set_cons_zero, List.set_cons_succ, List.append_nil, Nat.reduceAdd, Nat.reduceSub, Nat.reduceMul, List.replicate, evK_go, reduceIte, decide_false, Nat.reduceEqDiff, Nat.reduceLT, Nat.lt_irrefl, List.drop_zero]
      rw [List.take_of_length_le (by simp [hl])]
      rfl
theorem psolve_call (n : Int) (l : List OrT) (pure : Bool) (σ : St) (dst : Option Tmp) (K : St → Prop) : CallH Tryd.prog 36 [I .i64 n, .l (l.map orD)] pure σ dst (.mk : Hid K) = OrH ((l.length < 2 ^ 62) ∧ (pure || D.flat (.t [.l ((solveR n l).map Bo), erD (solveE n l)])) = true ∧ evK (σ.put dst (.d (.t [.l ((solveR n l).map Bo), erD (solveE n l)]))) (.mk : Hid K)) (.mk : Hid (CallH Tryd.prog 36 [I .i64 n, .l (l.map orD)] pure σ dst (.mk : Hid K))) := CallH.eq (psolve_spec n l) pure σ dst K
theorem psolve_callQ (n : Int) (l : List OrT) (pure : Bool) (C : V → Prop) : CallQ Tryd.prog 36 [I .i64 n, .l (l.map orD)] pure (.mk : Hid C) = OrH ((l.length < 2 ^ 62) ∧ (pure || D.flat (.t [.l ((solveR n l).map Bo), erD (solveE n l)])) = true ∧ evK (V.d (.t [.l ((solveR n l).map Bo), erD (solveE n l)])) (.mk : Hid C)) (.mk : Hid (CallQ Tryd.prog 36 [I .i64 n, .l (l.map orD)] pure (.mk : Hid C))) := CallQ.eq (psolve_spec n l) pure C
end Go.Proofs

namespace Go.Proofs
open Go.RowKit Go.Extern.Stop Go.Stop Go.Extern

/-- errors.As(nil, target). -/
theorem as_nil (t : Value) (w : World) :
    Calls Tryd.prog 113 #[.nilIface, t] w fun e w' => e = .returned (.bool false) ∧ w' = w := by
  go_enter Tryd.func113, Tryd.ntmps113
  go_wp2
  go_ret
  exact ⟨rfl, rfl⟩

/-! ### CLOSED FACTS ON THE MODEL's ENTRIES FOR internal/reflectlite, at this program's types: 25: *p.E · 27: **p.E · 23: error · 45: reflectlite's rtype · 1: how many package-level variables the dump has -/
theorem AsE.valueOf27 (t : Addr) (w : World) : (ReflectliteValue.unpack (.iface 126 (.pointer (some t)))).run Tryd.prog w
    = .ok (.agg #[.pointer (some ⟨1, 126, none⟩), .pointer (some ⟨w.heap.size, 0, none⟩), .int .u64 150]) (w.alloc (.cells #[.pointer (some t)] 126)) := by kernel_rfl
theorem AsE.type27 (a : Addr) (w : World) : (ReflectliteValue.methodAny (ReflectliteValue.valueError "reflectlite.Value.Type" 0) (fun t _ _ _ => ReflectliteType.toType t) #[.agg #[.pointer (some ⟨1, 126, none⟩), .pointer (some a), .int .u64 150]]).run Tryd.prog w
    = .ok (.iface 142 (.agg #[.pointer (some ⟨1, 126, none⟩)])) w := by kernel_rfl
theorem AsE.methodKind (h : Value) (w : World) : (Go.method 284 142 (.agg #[h]) "Kind").run Tryd.prog w = .ok (138, h) w := by kernel_rfl
theorem AsE.kind27 (w : World) : ((ReflectliteType.abiMethod fun t => (fun a : Nat => Value.int IntKind.u8 (a : Int)) <$> Rtype.kind t) #[.pointer (some ⟨1, 126, none⟩)]).run Tryd.prog w = .ok (.int .u8 22) w := by kernel_rfl
theorem AsE.kind25 (w : World) : ((ReflectliteType.abiMethod fun t => (fun a : Nat => Value.int IntKind.u8 (a : Int)) <$> Rtype.kind t) #[.pointer (some ⟨1, 108, none⟩)]).run Tryd.prog w = .ok (.int .u8 2) w := by kernel_rfl

/-! ### THE ENTRIES THAT READ OR WRITE MEMORY: laws with a premise on the cell (after Derived/Lib/ReflectliteSlice.lean's manner: each unfolding a lemma of its own, by rfl) -/
theorem rlm (z : Sem Value) (f : TypeId → Addr → Nat → Nat → Sem Value) (v : Value) :
    ReflectliteValue.method z f #[v] = (do match ← ReflectliteValue.parts v with | none => z | some (t, a, fl) => f t a fl (fl % 32)) := rfl
theorem AsE.parts27 (a : Addr) (w : World) : (ReflectliteValue.parts (.agg #[.pointer (some ⟨1, 126, none⟩), .pointer (some a), .int .u64 150])).run Tryd.prog w = .ok (some (126, a, 150)) w := by kernel_rfl
/-- (Value).IsNil at the Value of a **p.E that is not nil. -/
theorem AsE.isNil27 (a p : Addr) (W : World) (ha : W.cell? a = some (.pointer (some p))) :
    (ReflectliteValue.method (ReflectliteValue.valueError "reflectlite.Value.IsNil" 0) ReflectliteValue.isNil #[.agg #[.pointer (some ⟨1, 126, none⟩), .pointer (some a), .int .u64 150]]).run Tryd.prog W = .ok (.bool false) W := by
  rw [rlm]
  simp only [Sem.run_bind, AsE.parts27, Result.andThen]
  simp [ReflectliteValue.isNil, loadVar, isAgg, underlying, Tryd.underlying126, ha, Result.andThen]

theorem AsE.methodElem (h : Value) (w : World) : (Go.method 284 142 (.agg #[h]) "Elem").run Tryd.prog w = .ok (148, .agg #[h]) w := by kernel_rfl
theorem AsE.methodImplements (h : Value) (w : World) : (Go.method 284 142 (.agg #[h]) "Implements").run Tryd.prog w = .ok (149, .agg #[h]) w := by kernel_rfl
theorem AsE.methodAssignableTo (h : Value) (w : World) : (Go.method 284 142 (.agg #[h]) "AssignableTo").run Tryd.prog w = .ok (146, .agg #[h]) w := by kernel_rfl
theorem AsE.elem27 (w : World) : (ReflectliteType.method ReflectliteType.elem #[.agg #[.pointer (some ⟨1, 126, none⟩)]]).run Tryd.prog w = .ok (.iface 142 (.agg #[.pointer (some ⟨1, 108, none⟩)])) w := by kernel_rfl
theorem AsE.implements25 (w : World) : (ReflectliteType.relation "Implements" ReflectliteType.implements_ #[.agg #[.pointer (some ⟨1, 108, none⟩)], .iface 142 (.agg #[.pointer (some ⟨1, 29, none⟩)])]).run Tryd.prog w = .ok (.bool true) w := by kernel_rfl
theorem AsE.typeOf25 (v : Value) (w : World) : (ReflectliteType.typeOf #[.iface 108 v]).run Tryd.prog w = .ok (.iface 142 (.agg #[.pointer (some ⟨1, 108, none⟩)])) w := by kernel_rfl
theorem AsE.assignable25 (w : World) : (ReflectliteType.relation "AssignableTo" ReflectliteType.assignableTo #[.agg #[.pointer (some ⟨1, 108, none⟩)], .iface 142 (.agg #[.pointer (some ⟨1, 108, none⟩)])]).run Tryd.prog w = .ok (.bool true) w := by kernel_rfl
theorem AsE.valueOf25 (e : Int) (w : World) : (ReflectliteValue.unpack (.iface 108 (.int .i64 e))).run Tryd.prog w
    = .ok (.agg #[.pointer (some ⟨1, 108, none⟩), .pointer (some ⟨w.heap.size, 0, none⟩), .int .u64 130]) (w.alloc (.cells #[.int .i64 e] 108)) := by kernel_rfl

theorem AsE.elemOf27 (w : World) : (Rtype.elem? 126).run Tryd.prog w = .ok (some 108) w := by kernel_rfl
theorem AsE.mk25 (p : Addr) (w : World) : (ReflectliteValue.mk 108 p ReflectliteValue.flagAddr).run Tryd.prog w = .ok (.agg #[.pointer (some ⟨1, 108, none⟩), .pointer (some p), .int .u64 386]) w := by kernel_rfl
/-- (Value).Elem at the Value of a **p.E that is not nil: the Value of the *p.E variable that it points to, addressable. -/
theorem AsE.elemV27 (a p : Addr) (W : World) (ha : W.cell? a = some (.pointer (some p))) :
    (ReflectliteValue.method (ReflectliteValue.valueError "reflectlite.Value.Elem" 0) ReflectliteValue.elem #[.agg #[.pointer (some ⟨1, 126, none⟩), .pointer (some a), .int .u64 150]]).run Tryd.prog W
      = .ok (.agg #[.pointer (some ⟨1, 108, none⟩), .pointer (some p), .int .u64 386]) W := by
  rw [rlm]
  simp only [Sem.run_bind, AsE.parts27, Result.andThen]
  simp [ReflectliteValue.elem, loadVar, isAgg, underlying, Tryd.underlying126, ha, Result.andThen, AsE.elemOf27, AsE.mk25]
theorem rls (v x : Value) : ReflectliteValue.set #[v, x] = (do
    let (some (dst, a, fl), some (src, b, _)) := (← ReflectliteValue.parts v, ← ReflectliteValue.parts x)
      | unsupported (.noEntry "extern/(internal/reflectlite.Value).Set.zeroValue")
    if fl / ReflectliteValue.flagAddr % 2 == 0 then unsupported (.noEntry "extern/(internal/reflectlite.Value).Set.unaddressable")
    let val ← loadVar src b
    if ← Rtype.directlyAssignable dst src then storeVar dst a val
    else if ← Rtype.implements dst src then
      if (← Rtype.kind src) == 20 then
        match val with
        | .nilIface => unsupported (.noEntry "extern/reflectlite: a nil value of one interface type handed on as a value of another")
        | _ => storeVar dst a val
      else storeVar dst a (.iface src val)
    else panicString ("reflectlite.Set: value of type " ++ (← Rtype.spelt src) ++ " is not assignable to type " ++ (← Rtype.spelt dst))
    pure (.tuple #[])) := rfl
theorem AsE.parts25a (a : Addr) (w : World) : (ReflectliteValue.parts (.agg #[.pointer (some ⟨1, 108, none⟩), .pointer (some a), .int .u64 386])).run Tryd.prog w = .ok (some (108, a, 386)) w := by kernel_rfl
theorem AsE.parts25 (a : Addr) (w : World) : (ReflectliteValue.parts (.agg #[.pointer (some ⟨1, 108, none⟩), .pointer (some a), .int .u64 130])).run Tryd.prog w = .ok (some (108, a, 130)) w := by kernel_rfl
theorem AsE.direct25 (w : World) : (Rtype.directlyAssignable 108 108).run Tryd.prog w = .ok true w := by kernel_rfl
theorem AsE.size25 (w : World) : (sizeOf 108).run Tryd.prog w = .ok 1 w := by kernel_rfl
/-- (Value).Set: the *p.E variable at 'ta' gets what the Value's own variable 'b' holds. -/
theorem AsE.set25 (ta b : Addr) (e : Int) (old : Value) (W : World) (hb : W.cell? b = some (.int .i64 e)) (ht : W.cell? ta = some old) (hf : W.frozen? ta = false) :
    (ReflectliteValue.set #[.agg #[.pointer (some ⟨1, 108, none⟩), .pointer (some ta), .int .u64 386], .agg #[.pointer (some ⟨1, 108, none⟩), .pointer (some b), .int .u64 130]]).run Tryd.prog W
      = .ok (.tuple #[]) (W.setCell ta (.int .i64 e)) := by
  rw [rls]
  simp only [Sem.run_bind, AsE.parts25a, AsE.parts25, Result.andThen]
  simp [ReflectliteValue.flagAddr, loadVar, isAgg, underlying, Tryd.underlying108, hb, Result.andThen, AsE.direct25, storeVar, Value.cells, storeCells, Addr.add]
  rw [run_store Tryd.prog W ta _ _ (by rfl)]
  simp [ht, hf]

set_option maxHeartbeats 4000000 in
theorem as_hit (e : Int) (t : Addr) (old : Value) (w : World) (hg : w.cell? ⟨0, 0, none⟩ = some (.iface 142 (.agg #[.pointer (some ⟨1, 29, none⟩)]))) (ht0 : w.cell? t = some old) (hf0 : w.frozen? t = false) :
    Calls Tryd.prog 113 #[.iface 108 (.int .i64 e), .iface 126 (.pointer (some t))] w fun ev w' => ev = .returned (.bool true) ∧ w' = ((((w.alloc (.cells #[.pointer (some t)] 126)).alloc (.cells #[.pointer (some ⟨1, 126, none⟩), .pointer (some ⟨w.heap.size, 0, none⟩), .int .u64 150] 132)).alloc (.cells #[.pointer (some ⟨1, 126, none⟩), .pointer (some ⟨w.heap.size, 0, none⟩), .int .u64 150] 132)).alloc (.cells #[.int .i64 e] 108)).setCell t (.int .i64 e) := by
  have h6 := @run_callFunc_extern Tryd.prog 117 _ (fun args => ReflectliteValue.unpack (args.getD 0 (.tuple #[]))) Tryd.func117 (by kernel_rfl) (by kernel_rfl) (by kernel_rfl) (by kernel_rfl)
  have h7 := @run_callFunc_extern Tryd.prog 118 _ (ReflectliteValue.methodAny (ReflectliteValue.valueError "reflectlite.Value.Type" 0) (fun t _ _ _ => ReflectliteType.toType t)) Tryd.func118 (by kernel_rfl) (by kernel_rfl) (by kernel_rfl) (by kernel_rfl)
  have h8 := @run_callFunc_extern Tryd.prog 119 _ (ReflectliteValue.method (ReflectliteValue.valueError "reflectlite.Value.IsNil" 0) ReflectliteValue.isNil) Tryd.func119 (by kernel_rfl) (by kernel_rfl) (by kernel_rfl) (by kernel_rfl)
  have h27 := @run_callFunc_extern Tryd.prog 138 _ (ReflectliteType.abiMethod fun t => do pure (.int .u8 (← Rtype.kind t))) Tryd.func138 (by kernel_rfl) (by kernel_rfl) (by kernel_rfl) (by kernel_rfl)
  have h37 := @run_callFunc_extern Tryd.prog 148 _ (ReflectliteType.method ReflectliteType.elem) Tryd.func148 (by kernel_rfl) (by kernel_rfl) (by kernel_rfl) (by kernel_rfl)
  have h38 := @run_callFunc_extern Tryd.prog 149 _ (ReflectliteType.relation "Implements" ReflectliteType.implements_) Tryd.func149 (by kernel_rfl) (by kernel_rfl) (by kernel_rfl) (by kernel_rfl)
  have h10 := @run_callFunc_extern Tryd.prog 121 _ ReflectliteType.typeOf Tryd.func121 (by kernel_rfl) (by kernel_rfl) (by kernel_rfl) (by kernel_rfl)
  have h35 := @run_callFunc_extern Tryd.prog 146 _ (ReflectliteType.relation "AssignableTo" ReflectliteType.assignableTo) Tryd.func146 (by kernel_rfl) (by kernel_rfl) (by kernel_rfl) (by kernel_rfl)
  have h11 := @run_callFunc_extern Tryd.prog 122 _ (ReflectliteValue.method (ReflectliteValue.valueError "reflectlite.Value.Elem" 0) ReflectliteValue.elem) Tryd.func122 (by kernel_rfl) (by kernel_rfl) (by kernel_rfl) (by kernel_rfl)
  have h12 := @run_callFunc_extern Tryd.prog 123 _ ReflectliteValue.set Tryd.func123 (by kernel_rfl) (by kernel_rfl) (by kernel_rfl) (by kernel_rfl)
  have tO := AsE.typeOf25
  have mA := AsE.methodAssignableTo
  have a25 := AsE.assignable25
  have v25 := AsE.valueOf25
  have f6 := AsE.valueOf27
  have f7 := AsE.type27
  have mK := AsE.methodKind
  have mE := AsE.methodElem
  have mI := AsE.methodImplements
  have k27 := AsE.kind27
  have k25 := AsE.kind25
  have e27 := AsE.elem27
  have i25 := AsE.implements25
  have n8 := AsE.isNil27 ⟨w.heap.size, 0, none⟩ t ((w.alloc (.cells #[.pointer (some t)] 126)).alloc (.cells #[.pointer (some ⟨1, 126, none⟩), .pointer (some ⟨w.heap.size, 0, none⟩), .int .u64 150] 132)) (by simp)
  have hlt : 0 < w.heap.size := by
    rcases Nat.eq_zero_or_pos w.heap.size with h0 | h
    · simp [World.cell?, h0] at hg
    · exact h
  have hg2 : ((w.alloc (.cells #[.pointer (some t)] 126)).alloc (.cells #[.pointer (some ⟨1, 126, none⟩), .pointer (some ⟨w.heap.size, 0, none⟩), .int .u64 150] 132)).cell? ⟨0, 0, none⟩ = some (.iface 142 (.agg #[.pointer (some ⟨1, 29, none⟩)])) := by
    rw [World.cell?_alloc_lt _ _ ⟨0, 0, none⟩ (by simp), World.cell?_alloc_lt _ _ ⟨0, 0, none⟩ hlt]; exact hg
  have htl : t.block < w.heap.size := by
    rcases Nat.lt_or_ge t.block w.heap.size with h | h
    · exact h
    · simp [World.cell?, Array.getElem?_eq_none h] at ht0
  have el := AsE.elemV27 ⟨w.heap.size, 0, none⟩ t (((w.alloc (.cells #[.pointer (some t)] 126)).alloc (.cells #[.pointer (some ⟨1, 126, none⟩), .pointer (some ⟨w.heap.size, 0, none⟩), .int .u64 150] 132)).alloc (.cells #[.pointer (some ⟨1, 126, none⟩), .pointer (some ⟨w.heap.size, 0, none⟩), .int .u64 150] 132)) (by rw [World.cell?_alloc_lt _ _ ⟨w.heap.size, 0, none⟩ (by simp; omega)]; simp)
  have st := AsE.set25 t ⟨w.heap.size + 1 + 1 + 1, 0, none⟩ e old ((((w.alloc (.cells #[.pointer (some t)] 126)).alloc (.cells #[.pointer (some ⟨1, 126, none⟩), .pointer (some ⟨w.heap.size, 0, none⟩), .int .u64 150] 132)).alloc (.cells #[.pointer (some ⟨1, 126, none⟩), .pointer (some ⟨w.heap.size, 0, none⟩), .int .u64 150] 132)).alloc (.cells #[.int .i64 e] 108))
    (by rw [World.cell?_alloc_at _ _ _ _ (by simp)]; rfl)
    (by rw [World.cell?_alloc_lt _ _ t (by simp; omega), World.cell?_alloc_lt _ _ t (by simp; omega), World.cell?_alloc_lt _ _ t (by simp; omega), World.cell?_alloc_lt _ _ t htl]; exact ht0)
    (by rw [World.frozen?_alloc_old _ _ t (by simp; omega), World.frozen?_alloc_old _ _ t (by simp; omega), World.frozen?_alloc_old _ _ t (by simp; omega), World.frozen?_alloc_old _ _ t (Nat.ne_of_lt htl)]; exact hf0)
  go_enter Tryd.func113, Tryd.ntmps113
  go_wp2
  refine wp_loop_rounds 1 ?_
  rw [rounds_succ]
  go_wp2
  go_ret
  exact ⟨rfl, rfl⟩
end Go.Proofs

namespace Go.Proofs
open Go.Aw Go.RowKit Go.Extern.Stop Go.Stop Go.Extern
theorem hnd_eq : hnd Tryd.prog = .iface 142 (.agg #[.pointer (some ⟨1, 29, none⟩)]) := by kernel_rfl
theorem glob_eq : Tryd.prog.globalNamed "errors.errorType" = some 0 := by kernel_rfl
theorem told_nil (w : World) : Calls Tryd.prog 86 #[.nilIface] w fun e w' => e = .returned (.int .i64 0) ∧ w' = w := by
  go_enter Tryd.func86, Tryd.ntmps86
  go_wp2
  go_ret
  exact ⟨rfl, rfl⟩
set_option maxHeartbeats 4000000 in
theorem told_some (n : Int) (w : World) (hg : w.cell? ⟨0, 0, none⟩ = some (.iface 142 (.agg #[.pointer (some ⟨1, 29, none⟩)]))) : Calls Tryd.prog 86 #[.iface 108 (.int .i64 n)] w fun e w' => e = .returned (.int .i64 n) ∧ Below w.heap.size w w' := by
  have hlt : 0 < w.heap.size := by
    rcases Nat.eq_zero_or_pos w.heap.size with h0 | h
    · simp [World.cell?, h0] at hg
    · exact h
  have hgA : (w.alloc (.cells #[.int .i64 0] 108)).cell? ⟨0, 0, none⟩ = some (.iface 142 (.agg #[.pointer (some ⟨1, 29, none⟩)])) := by
    rw [World.cell?_alloc_lt _ _ ⟨0, 0, none⟩ hlt]; exact hg
  have htA : (w.alloc (.cells #[.int .i64 0] 108)).cell? ⟨w.heap.size, 0, none⟩ = some (.int .i64 0) := by simp
  have hfA : (w.alloc (.cells #[.int .i64 0] 108)).frozen? ⟨w.heap.size, 0, none⟩ = false := by simp
  go_enter Tryd.func86, Tryd.ntmps86
  go_wp2_with (first | (go_at_call 113; refine (as_hit n _ (.int .i64 0) _ hgA htA hfA).mono ?_; rintro e w' ⟨rfl, rfl⟩))
  go_ret
  refine ⟨rfl, ?_⟩
  exact (((((Below.refl _ w).alloc (Nat.le_refl _) _).alloc (by simp) _).alloc (by simp; omega) _).alloc (by simp; omega) _).alloc (by simp; omega) _
theorem told_spec (e : Int) : FnD Tryd.prog 86 [erD e] (I .i64 e) := by
  refine ⟨fun args w => enters_of Tryd.func86 rfl rfl args w, fun w N vs hg hN ha => ?_⟩
  obtain ⟨v, rfl⟩ := List.length_eq_one_iff.1 ha.1
  have hv := ha.2 0 _ v rfl rfl
  have hc := hg 0 glob_eq
  rw [hnd_eq] at hc
  have key : Calls Tryd.prog 86 #[v] w fun ev w' => ev = .returned (.int .i64 e) ∧ Below w.heap.size w w' := by
    by_cases h : e = 0
    · subst h
      cases hv
      exact (told_nil w).mono fun ev w' ⟨h1, h2⟩ => ⟨h1, by rw [h2]; exact Below.refl _ _⟩
    · have hv : RelD w N (.c (.iface 108 (.int .i64 e))) v := by
        have e1 : erD e = .c (.iface 108 (.int .i64 e)) := if_neg h
        rwa [e1] at hv
      cases hv
      exact told_some e w hc
  exact (callsIn_wide.2 key).mono fun ev w' ⟨h1, h2⟩ => ⟨_, _, rfl, h1, h2, .c _⟩
end Go.Proofs

namespace Go.Proofs
open Go.Aw
set_option linter.unusedSimpArgs false
set_option maxRecDepth 10000
theorem told_call (e : Int) (pure : Bool) (σ : St) (dst : Option Tmp) (K : St → Prop) : CallH Tryd.prog 86 [erD e] pure σ dst (.mk : Hid K) = OrH ((pure || D.flat (I .i64 e)) = true ∧ evK (σ.put dst (.d (I .i64 e))) (.mk : Hid K)) (.mk : Hid (CallH Tryd.prog 86 [erD e] pure σ dst (.mk : Hid K))) := CallH.eq0 (told_spec e) pure σ dst K
theorem told_callQ (e : Int) (pure : Bool) (C : V → Prop) : CallQ Tryd.prog 86 [erD e] pure (.mk : Hid C) = OrH ((pure || D.flat (I .i64 e)) = true ∧ evK (V.d (I .i64 e)) (.mk : Hid C)) (.mk : Hid (CallQ Tryd.prog 86 [erD e] pure (.mk : Hid C))) := CallQ.eq0 (told_spec e) pure C
theorem eerr_spec (e n : Int) : FnD Tryd.prog 24 [erD e, I .i64 n] (Bo (decide (e = n))) := by
  refine FnD.go Tryd.func24 rfl rfl Tryd.results24 Tryd.ntmps24 ?_
  simp (implicitDefEqProofs := false) (dsimp := false) only [↓aw_seq, ↓aw_reg, ↓Qseq_n, ↓ops_nil, ↓ops_cons, ↓eval_tmp, ↓eval_bool, ↓eval_func, ↓put_some, ↓op_move, ↓op_assign, ↓op_call, isD_d, ↓fnK_f, ↓call_H, ↓callK_H, ↓allT_nil, ↓allT_cons, ↓td_d, List.getD_cons_zero, List.getD_cons_succ, List.set_cons_zero, List.set_cons_succ, List.cons_append, List.nil_append, List.append_nil, List.map_cons, List.map_nil, List.length_cons, List.length_nil, List.all_cons, List.all_nil, Bool.and_self, Nat.reduceAdd, Nat.reduceSub, Nat.reduceMul, Nat.zero_add, List.replicate, evK_go, reduceIte, Nat.reduceEqDiff, Nat.reduceLT, and_self, Int.zero_add]
  simp (implicitDefEqProofs := false) (dsimp := false) only [told_call, ↓aw_seq, ↓aw_ret, ↓aw_reg, ↓Qseq_n, ↓Qret_r, ↓ops_nil, ↓ops_cons, ↓eval_tmp, ↓put_some, ↓binE_i, ↓bi_eql, ↓op_move, ↓op_assign, ↓op_bin, ↓orH_T, ↓td_d, ↓ret_1, List.getD_cons_zero, List.getD_cons_succ, List.set_cons_zero, List.set_cons_succ, Bool.and_self, Bool.true_or, Nat.reduceAdd, Nat.reduceSub, Nat.reduceMul, evK_go, reduceIte, Nat.reduceEqDiff, Nat.reduceLT, and_self]
theorem eerr_call (e n : Int) (pure : Bool) (σ : St) (dst : Option Tmp) (K : St → Prop) : CallH Tryd.prog 24 [erD e, I .i64 n] pure σ dst (.mk : Hid K) = OrH ((pure || D.flat (Bo (decide (e = n)))) = true ∧ evK (σ.put dst (.d (Bo (decide (e = n))))) (.mk : Hid K)) (.mk : Hid (CallH Tryd.prog 24 [erD e, I .i64 n] pure σ dst (.mk : Hid K))) := CallH.eq0 (eerr_spec e n) pure σ dst K
theorem eerr_callQ (e n : Int) (pure : Bool) (C : V → Prop) : CallQ Tryd.prog 24 [erD e, I .i64 n] pure (.mk : Hid C) = OrH ((pure || D.flat (Bo (decide (e = n)))) = true ∧ evK (V.d (Bo (decide (e = n)))) (.mk : Hid C)) (.mk : Hid (CallQ Tryd.prog 24 [erD e, I .i64 n] pure (.mk : Hid C))) := CallQ.eq0 (eerr_spec e n) pure C
end Go.Proofs

namespace Go.Proofs
open Go.Aw
set_option linter.unusedSimpArgs false
set_option maxRecDepth 10000
def pisE (n : Int) (l : List OrT) (a : List Bool) : Int := if ockE n l = 0 then (if (a.length : Int) = n then 0 else 3) else ockE n l
def pisB (n : Int) (l : List OrT) (a : List Bool) : Bool := decide (pisE n l a = 0) && rightB (clN l) a
theorem litB_K (a : List Bool) {x : Int} (b : Bool) (h : 0 ≤ x) : litB a (litK (x, b)) = !(a.getD x.toNat default == b) := by
  unfold litK litN litB
  cases b with
  | false =>
    simp (implicitDefEqProofs := false) (dsimp := false) only [show (false != false) = false from rfl, Bool.false_eq_true, if_false]
    rw [if_pos (by omega), show (2 * x).toNat / 2 = x.toNat by omega]
    cases a.getD x.toNat default <;> rfl
  | true =>
    simp (implicitDefEqProofs := false) (dsimp := false) only [show (true != false) = true from rfl, if_true]
    rw [if_neg (by omega), show (2 * x + 1).toNat / 2 = x.toNat by omega]
    cases a.getD x.toNat default <;> rfl
theorem right_snoc (l : List OrT) (o : OrT) (a : List Bool) : rightB (clN (l ++ [o])) a = (rightB (clN l) a && (litB a (litK o.1) || litB a (litK o.2))) := by simp [rightB, clN]
theorem pis_spec (n : Int) (l : List OrT) (a : List Bool) (hpre : l.length < 2 ^ 62 ∧ a.length < 2 ^ 62) : FnD Tryd.prog 48 [I .i64 n, .l (l.map orD), .l (a.map Bo)] (.t [Bo (pisB n l a), erD (pisE n l a)]) := by
  obtain ⟨hpre, ha62⟩ := hpre
  refine FnD.go Tryd.func48 rfl rfl Tryd.results48 Tryd.ntmps48 ?_
  simp (implicitDefEqProofs := false) (dsimp := false) only [↓aw_seq, ↓aw_reg, ↓Qseq_n, ↓ops_nil, ↓ops_cons, ↓eval_tmp, ↓eval_bool, ↓eval_func, ↓put_some, ↓op_move, ↓op_assign, ↓op_call, isD_d, ↓fnK_f, ↓call_H, ↓callK_H, ↓allT_nil, ↓allT_cons, ↓td_d, List.getD_cons_zero, List.getD_cons_succ, List.set_cons_zero, List.set_cons_succ, List.cons_append, List.nil_append, List.append_nil, List.map_cons, List.map_nil, List.length_cons, List.length_nil, List.all_cons, List.all_nil, Bool.and_self, Nat.reduceAdd, Nat.reduceSub, Nat.reduceMul, Nat.zero_add, List.replicate, evK_go, reduceIte, Nat.reduceEqDiff, Nat.reduceLT, and_self, Int.zero_add]
  simp (implicitDefEqProofs := false) (dsimp := false) only [ocheck_call, hpre, eval_nilI, ↓er_neq, er_flat, ↓cdK_not, ↓aw_cond, ↓aw_seq, ↓aw_reg, ↓Qseq_n, ↓ops_nil, ↓ops_cons, ↓eval_tmp, ↓put_some, ↓bK_b, ↓op_move, ↓op_assign, ↓op_bin, List.getD_cons_zero, List.getD_cons_succ, List.set_cons_zero, List.set_cons_succ, Bool.true_and, Bool.or_true, Nat.reduceAdd, Nat.reduceSub, Nat.reduceMul, evK_go, reduceIte, Nat.reduceEqDiff, Nat.reduceLT, true_and]
  (repeat refine OrH.l ?_)
  refine cdK_dec (fun hc => ?_) (fun hc => ?_)
  rotate_left
  · have e2 : pisE n l a = ockE n l := if_neg hc
    have e1 : pisB n l a = false := by unfold pisB; rw [e2, decide_eq_false hc]; rfl
    simp (implicitDefEqProofs := false) (dsimp := false) only [e1, e2, ↓aw_seq, ↓aw_ret, ↓aw_reg, ↓Qseq_n, ↓Qseq_r, ↓Qret_r, ↓ops_nil, ↓ops_cons, ↓eval_tmp, ↓eval_bool, ↓put_some, ↓op_move, ↓op_assign, ↓td_d, ↓ret_2, List.getD_cons_zero, List.getD_cons_succ, List.set_cons_zero, List.set_cons_succ, Nat.reduceAdd, Nat.reduceSub, Nat.reduceMul, evK_go, reduceIte, Nat.reduceEqDiff, Nat.reduceLT]
  obtain ⟨hn, hl, hin⟩ := ock_ok hc
  have e2 : pisE n l a = if (a.length : Int) = n then 0 else 3 := if_pos hc
  simp (implicitDefEqProofs := false) (dsimp := false) only [↓cdK_not, ↓aw_cond, ↓aw_seq, ↓aw_skip, ↓aw_reg, ↓Qseq_n, ↓ops_nil, ↓ops_cons, ↓eval_tmp, ↓put_some, ↓bK_b, ↓lenK_l, ↓binE_i, ↓bi_neq, ↓op_move, ↓op_bin, ↓op_len, ↓sl46, List.getD_cons_zero, List.getD_cons_succ, List.set_cons_zero, List.set_cons_succ, List.length_map, Nat.reduceAdd, Nat.reduceSub, Nat.reduceMul, evK_go, reduceIte, Nat.reduceEqDiff, Nat.reduceLT]
  refine cdK_dec (fun h2 => ?_) (fun h2 => ?_)
  rotate_left
  · have e3 : pisE n l a = 3 := by rw [e2, if_neg h2]
    have e1 : pisB n l a = false := by unfold pisB; rw [e3]; rfl
    simp (implicitDefEqProofs := false) (dsimp := false) only [e1, e3, ↓aw_seq, ↓aw_ret, ↓aw_reg, ↓Qseq_n, ↓Qseq_r, ↓Qret_r, ↓ops_nil, ↓ops_cons, ↓eval_tmp, ↓eval_int, ↓eval_bool, ↓put_some, ↓vK_c, ↓op_assign, ↓op_iface, ↓td_d, ↓ret_2, ↓nc108, List.getD_cons_zero, List.getD_cons_succ, List.set_cons_zero, List.set_cons_succ, Bool.true_and, Nat.reduceAdd, Nat.reduceSub, Nat.reduceMul, evK_go, reduceIte, Nat.reduceEqDiff, Nat.reduceLT, true_and]
    rfl
  have e3 : pisE n l a = 0 := by rw [e2, if_pos h2]
  have e1 : pisB n l a = rightB (clN l) a := by unfold pisB; rw [e3]; rfl
  rw [e1, e3]
  simp (implicitDefEqProofs := false) (dsimp := false) only [↓aw_seq, ↓aw_block, ↓aw_skip, ↓aw_loop, ↓aw_reg, ↓Qseq_n, ↓ops_nil, ↓ops_cons, ↓eval_tmp, ↓eval_int, ↓put_some, ↓lenK_l, ↓op_move, ↓op_len, ↓sl45, List.getD_cons_zero, List.getD_cons_succ, List.set_cons_zero, List.set_cons_succ, List.length_map, Nat.reduceAdd, Nat.reduceSub, Nat.reduceMul, evK_go, reduceIte, Nat.reduceEqDiff, Nat.reduceLT]
  refine loopW (fun k : Nat => { tm := slots 51 [(2, .d (.l (a.map Bo))), (22, .d (.l (l.map orD))), (23, .d (I .i64 l.length)), (24, .d (I .i64 k))], bx := [], rw := [] })
    (fun k => k ≤ l.length ∧ rightB (clN (l.take k)) a = true) (fun k => l.length - k) 0 ⟨by simp, rfl⟩ ?_ ?_
  · refine Wkn.of [] [] ?_; simp (implicitDefEqProofs := false) (dsimp := false) only [List.set_cons_zero, List.set_cons_succ, Bool.and_self, Nat.reduceAdd, Nat.reduceSub, Nat.reduceMul, List.replicate, evK_go, reduceIte, Nat.reduceEqDiff, Nat.reduceLT, and_self, List.foldl_cons, List.foldl_nil, Int.cast_ofNat_Int, slots, wkL_nil, wkL_cons, wkB_nil, wkR_nil, wkV_j, wkV_d, frz_d, reduceCtorEq]
  · rintro k ⟨hk, hr⟩
    simp (implicitDefEqProofs := false) (dsimp := false) only [slots, ↓aw_cond, ↓aw_seq, ↓aw_reg, ↓Qseq_n, ↓ops_nil, ↓ops_cons, ↓eval_tmp, ↓put_some, ↓bK_b, ↓binE_i, ↓bi_lss, ↓op_bin, List.getD_cons_zero, List.getD_cons_succ, List.set_cons_zero, List.set_cons_succ, Nat.reduceAdd, Nat.reduceSub, Nat.reduceMul, List.replicate, evK_go, reduceIte, Nat.reduceEqDiff, Nat.reduceLT, List.foldl_cons, List.foldl_nil, Int.ofNat_lt]
    refine cdK_dec (fun h => ?_) (fun h => ?_)
    · obtain ⟨o1, o2⟩ := hin _ (getD_mem h)
      have hs := right_snoc (l.take k) (l.getD k default) a
      rw [← take_succ_getD h, hr, Bool.true_and] at hs
      generalize hab : l.getD k default = o at o1 o2 hs
      obtain ⟨⟨x, b⟩, y, c⟩ := o
      simp only at o1 o2
      obtain ⟨x, rfl⟩ : ∃ x' : Nat, x = (x' : Int) := ⟨x.toNat, by omega⟩
      obtain ⟨y, rfl⟩ : ∃ y' : Nat, y = (y' : Int) := ⟨y.toNat, by omega⟩
      rw [litB_K a b (by omega), litB_K a c (by omega), Int.toNat_natCast, Int.toNat_natCast] at hs
      have hx : x < a.length := by omega
      have hy : y < a.length := by omega
      simp (implicitDefEqProofs := false) (dsimp := false) only [h, orD, hab, ↓bo_eql, ↓gdK_t, ↓gval_mk, ↓gvL_zero, ↓gvL_succ, ↓atK_H, ↓atH_map, ↓nthK_H, ↓nthH_zero, ↓nthH_succ, ↓aw_seq, ↓aw_block, ↓aw_skip, ↓aw_reg, ↓aw_draw, ↓Qseq_n, ↓ops_nil, ↓ops_cons, ↓eval_tmp, ↓put_some, ↓put_none, ↓iK_i, ↓ev_move, ↓ev_load, ↓ev_bin, ↓ev_fa, ↓ev_ia, ↓ldK_q, ↓ldK_p, ↓faK_p, ↓iaK_l, ↓op_load, ↓op_ia, ↓op_alloc, ↓op_store, ↓draw_H, ↓h_cons, ↓ldH_n, ↓ldH_g, ↓q_move, ↓q_load, ↓q_bin, ↓q_fa, ↓q_ia, ↓il_move, ↓il_load, ↓il_bin, ↓il_fa, ↓il_ia, ↓addBox_mk, ↓setBox_mk, ↓st_tm, ↓st_bx, ↓cells_c, ↓cells_s, ↓vcells_s, ↓one_i, ↓one_b, ↓vone_d, constV_a, ↓st_p, ↓hd_cons, ↓ty3, ↓ty4, ↓sl45, ↓sl46, ↓fd91_0, ↓fd91_1, ↓ty93, ↓zb93, ↓fd93_0, List.getD_cons_zero, List.getD_cons_succ, List.set_cons_zero, List.set_cons_succ, List.nil_append, List.map_cons, List.map_nil, List.length_cons, List.length_nil, List.all_cons, List.all_nil, Bool.true_and, Bool.and_self, Nat.reduceAdd, Nat.reduceSub, Nat.reduceMul, Nat.zero_add, Nat.add_zero, Int.toNat_natCast, evK_go, reduceIte, decide_true, Nat.reduceEqDiff, Nat.reduceLT, and_self, true_and, Int.zero_add, List.take_succ_cons, List.take_nil, Int.natCast_nonneg]
      refine ⟨by decide, OrH.l ⟨DrawH.of follows_mixed (by kernel_rfl), hx, ?_⟩⟩
      cases h1 : (a.getD x default == b) with
      | false =>
        rw [h1, Bool.not_false, Bool.true_or] at hs
        simp (implicitDefEqProofs := false) (dsimp := false) only [↓cdK_false, ↓gdK_t, ↓gval_mk, ↓gvL_zero, ↓gvL_succ, ↓aw_cond, ↓aw_skip, ↓aw_reg, ↓Qseq_n, ↓Qblk_n, ↓ops_nil, ↓ops_cons, ↓eval_tmp, ↓eval_int, ↓eval_bool, ↓put_some, ↓bK_b, ↓ev_pick, ↓binE_i, ↓bi_add, ↓in_i64, ↓op_move, ↓op_bin, ↓h_nil, ↓h_cons, ↓ldH_n, ↓ldH_g, ↓q_pick, ↓il_pick, ↓il_load, ↓il_bin, ↓il_fa, ↓il_ia, ↓st_tm, List.getD_cons_zero, List.getD_cons_succ, List.set_cons_zero, List.set_cons_succ, Nat.reduceAdd, Nat.reduceSub, Nat.reduceMul, evK_go, reduceIte, Nat.reduceEqDiff, Nat.reduceLT]
        refine ⟨by omega, k + 1, ⟨by omega, hs⟩, by omega, ?_⟩
        refine Wkn.of [] [] ?_; simp (implicitDefEqProofs := false) (dsimp := false) only [List.set_cons_zero, List.set_cons_succ, Bool.and_self, Nat.reduceAdd, Nat.reduceSub, Nat.reduceMul, List.replicate, evK_go, reduceIte, Nat.reduceEqDiff, Nat.reduceLT, and_self, List.foldl_cons, List.foldl_nil, Int.cast_ofNat_Int, Int.natCast_add, slots, wkL_nil, wkL_cons, wkB_nil, wkR_nil, wkV_j, wkV_d, frz_d, reduceCtorEq]
      | true =>
        simp (implicitDefEqProofs := false) (dsimp := false) only [↓bo_eql, ↓cdK_true, ↓gdK_t, ↓gval_mk, ↓gvL_zero, ↓gvL_succ, ↓atK_H, ↓atH_map, ↓nthK_H, ↓nthH_zero, ↓nthH_succ, ↓aw_cond, ↓Qseq_n, ↓eval_tmp, ↓put_some, ↓bK_b, ↓iK_i, ↓ev_move, ↓ev_pick, ↓ev_load, ↓ev_bin, ↓ev_fa, ↓ev_ia, ↓ldK_q, ↓ldK_p, ↓faK_p, ↓iaK_l, ↓h_nil, ↓h_cons, ↓ldH_n, ↓ldH_g, ↓q_move, ↓q_pick, ↓q_load, ↓q_bin, ↓q_fa, ↓q_ia, ↓il_pick, ↓il_load, ↓il_bin, ↓il_fa, ↓il_ia, ↓st_tm, ↓cells_c, ↓vcells_s, ↓hd_cons, ↓ty3, ↓ty4, ↓sl46, ↓fd91_0, ↓fd91_1, ↓fd93_1, List.getD_cons_zero, List.getD_cons_succ, List.set_cons_zero, List.set_cons_succ, List.map_cons, List.map_nil, List.length_cons, List.length_nil, Bool.true_and, Nat.reduceAdd, Nat.reduceSub, Nat.reduceMul, Nat.zero_add, Nat.add_zero, Int.toNat_natCast, evK_go, reduceIte, Nat.reduceEqDiff, Nat.reduceLT, true_and, Int.zero_add, Int.natCast_nonneg]
        refine ⟨hy, ?_⟩
        cases h2 : (a.getD y default == c) with
        | false =>
          rw [h2, Bool.not_false, Bool.or_true] at hs
          simp (implicitDefEqProofs := false) (dsimp := false) only [↓cdK_false, ↓aw_skip, ↓aw_reg, ↓Qseq_n, ↓Qblk_n, ↓ops_nil, ↓ops_cons, ↓eval_tmp, ↓eval_int, ↓put_some, ↓binE_i, ↓bi_add, ↓in_i64, ↓op_move, ↓op_bin, List.getD_cons_zero, List.getD_cons_succ, List.set_cons_zero, List.set_cons_succ, Nat.reduceAdd, Nat.reduceSub, Nat.reduceMul, evK_go, reduceIte, Nat.reduceEqDiff, Nat.reduceLT]
          refine ⟨by omega, k + 1, ⟨by omega, hs⟩, by omega, ?_⟩
          refine Wkn.of [] [] ?_; simp (implicitDefEqProofs := false) (dsimp := false) only [List.set_cons_zero, List.set_cons_succ, Bool.and_self, Nat.reduceAdd, Nat.reduceSub, Nat.reduceMul, List.replicate, evK_go, reduceIte, Nat.reduceEqDiff, Nat.reduceLT, and_self, List.foldl_cons, List.foldl_nil, Int.cast_ofNat_Int, Int.natCast_add, slots, wkL_nil, wkL_cons, wkB_nil, wkR_nil, wkV_j, wkV_d, frz_d, reduceCtorEq]
        | true =>
          rw [h1, h2] at hs
          have hno : rightB (clN l) a = false := by
            rw [← Bool.not_eq_true]
            intro hq
            have := right_sub (cl' := clN (l.take (k + 1))) (fun c hc => by
              obtain ⟨o, ho, rfl⟩ := List.mem_map.1 hc
              exact List.mem_map.2 ⟨o, List.mem_of_mem_take ho, rfl⟩) hq
            rw [this] at hs; cases hs
          simp (implicitDefEqProofs := false) (dsimp := false) only [hno, eval_nilI, ↓cdK_true, ↓aw_seq, ↓aw_ret, ↓aw_reg, ↓Qseq_n, ↓Qseq_r, ↓Qblk_r, ↓Qret_r, ↓ops_nil, ↓ops_cons, ↓eval_tmp, ↓eval_bool, ↓put_some, ↓op_assign, ↓td_d, ↓ret_2, List.getD_cons_zero, List.getD_cons_succ, List.set_cons_zero, List.set_cons_succ, Nat.reduceAdd, Nat.reduceSub, Nat.reduceMul, evK_go, reduceIte, Nat.reduceEqDiff, Nat.reduceLT]
          rfl
    · obtain rfl : k = l.length := by omega
      rw [List.take_length] at hr
      simp (implicitDefEqProofs := false) (dsimp := false) only [hr, eval_nilI, ↓aw_seq, ↓aw_exit, ↓aw_ret, ↓aw_reg, ↓Qseq_n, ↓Qseq_x, ↓Qblk_x, ↓Qret_r, ↓ops_nil, ↓ops_cons, ↓eval_tmp, ↓eval_bool, ↓put_some, ↓op_assign, ↓td_d, ↓ret_2, List.getD_cons_zero, List.getD_cons_succ, List.set_cons_zero, List.set_cons_succ, Nat.reduceAdd, Nat.reduceSub, Nat.reduceMul, evK_go, reduceIte, decide_false, Nat.reduceEqDiff, Nat.reduceLT, Nat.lt_irrefl]
      rfl
theorem pis_call (n : Int) (l : List OrT) (a : List Bool) (pure : Bool) (σ : St) (dst : Option Tmp) (K : St → Prop) : CallH Tryd.prog 48 [I .i64 n, .l (l.map orD), .l (a.map Bo)] pure σ dst (.mk : Hid K) = OrH ((l.length < 2 ^ 62 ∧ a.length < 2 ^ 62) ∧ (pure || D.flat (.t [Bo (pisB n l a), erD (pisE n l a)])) = true ∧ evK (σ.put dst (.d (.t [Bo (pisB n l a), erD (pisE n l a)]))) (.mk : Hid K)) (.mk : Hid (CallH Tryd.prog 48 [I .i64 n, .l (l.map orD), .l (a.map Bo)] pure σ dst (.mk : Hid K))) := CallH.eq (pis_spec n l a) pure σ dst K
theorem pis_callQ (n : Int) (l : List OrT) (a : List Bool) (pure : Bool) (C : V → Prop) : CallQ Tryd.prog 48 [I .i64 n, .l (l.map orD), .l (a.map Bo)] pure (.mk : Hid C) = OrH ((l.length < 2 ^ 62 ∧ a.length < 2 ^ 62) ∧ (pure || D.flat (.t [Bo (pisB n l a), erD (pisE n l a)])) = true ∧ evK (V.d (.t [Bo (pisB n l a), erD (pisE n l a)])) (.mk : Hid C)) (.mk : Hid (CallQ Tryd.prog 48 [I .i64 n, .l (l.map orD), .l (a.map Bo)] pure (.mk : Hid C))) := CallQ.eq (pis_spec n l a) pure C
end Go.Proofs

namespace Go.Proofs
open Go.Aw
set_option linter.unusedSimpArgs false
set_option maxRecDepth 10000
theorem pf1_spec  : FnD Tryd.prog 36 [I .i64 2, .l [.s [I .i64 0, Bo false, I .i64 0, Bo false]]] (.t [.l [Bo true, Bo false], erD 0]) := by
  have h := psolve_spec 2 [((0, false), (0, false))] (by decide)
  rw [show solveR 2 [((0, false), (0, false))] = [true, false] by decide +kernel, show solveE 2 [((0, false), (0, false))] = 0 by decide +kernel] at h
  exact h
theorem pf1_call  (pure : Bool) (σ : St) (dst : Option Tmp) (K : St → Prop) : CallH Tryd.prog 36 [I .i64 2, .l [.s [I .i64 0, Bo false, I .i64 0, Bo false]]] pure σ dst (.mk : Hid K) = OrH ((pure || D.flat (.t [.l [Bo true, Bo false], erD 0])) = true ∧ evK (σ.put dst (.d (.t [.l [Bo true, Bo false], erD 0]))) (.mk : Hid K)) (.mk : Hid (CallH Tryd.prog 36 [I .i64 2, .l [.s [I .i64 0, Bo false, I .i64 0, Bo false]]] pure σ dst (.mk : Hid K))) := CallH.eq0 (pf1_spec ) pure σ dst K
theorem pf1_callQ  (pure : Bool) (C : V → Prop) : CallQ Tryd.prog 36 [I .i64 2, .l [.s [I .i64 0, Bo false, I .i64 0, Bo false]]] pure (.mk : Hid C) = OrH ((pure || D.flat (.t [.l [Bo true, Bo false], erD 0])) = true ∧ evK (V.d (.t [.l [Bo true, Bo false], erD 0])) (.mk : Hid C)) (.mk : Hid (CallQ Tryd.prog 36 [I .i64 2, .l [.s [I .i64 0, Bo false, I .i64 0, Bo false]]] pure (.mk : Hid C))) := CallQ.eq0 (pf1_spec ) pure C
theorem pf2_spec  : FnD Tryd.prog 36 [I .i64 1, .l [.s [I .i64 0, Bo false, I .i64 0, Bo false], .s [I .i64 0, Bo true, I .i64 0, Bo true]]] (.t [.l [], erD 5]) := by
  have h := psolve_spec 1 [((0, false), (0, false)), ((0, true), (0, true))] (by decide)
  rw [show solveR 1 [((0, false), (0, false)), ((0, true), (0, true))] = [] by decide +kernel, show solveE 1 [((0, false), (0, false)), ((0, true), (0, true))] = 5 by decide +kernel] at h
  exact h
theorem pf2_call  (pure : Bool) (σ : St) (dst : Option Tmp) (K : St → Prop) : CallH Tryd.prog 36 [I .i64 1, .l [.s [I .i64 0, Bo false, I .i64 0, Bo false], .s [I .i64 0, Bo true, I .i64 0, Bo true]]] pure σ dst (.mk : Hid K) = OrH ((pure || D.flat (.t [.l [], erD 5])) = true ∧ evK (σ.put dst (.d (.t [.l [], erD 5]))) (.mk : Hid K)) (.mk : Hid (CallH Tryd.prog 36 [I .i64 1, .l [.s [I .i64 0, Bo false, I .i64 0, Bo false], .s [I .i64 0, Bo true, I .i64 0, Bo true]]] pure σ dst (.mk : Hid K))) := CallH.eq0 (pf2_spec ) pure σ dst K
theorem pf2_callQ  (pure : Bool) (C : V → Prop) : CallQ Tryd.prog 36 [I .i64 1, .l [.s [I .i64 0, Bo false, I .i64 0, Bo false], .s [I .i64 0, Bo true, I .i64 0, Bo true]]] pure (.mk : Hid C) = OrH ((pure || D.flat (.t [.l [], erD 5])) = true ∧ evK (V.d (.t [.l [], erD 5])) (.mk : Hid C)) (.mk : Hid (CallQ Tryd.prog 36 [I .i64 1, .l [.s [I .i64 0, Bo false, I .i64 0, Bo false], .s [I .i64 0, Bo true, I .i64 0, Bo true]]] pure (.mk : Hid C))) := CallQ.eq0 (pf2_spec ) pure C
theorem pf3_spec  : FnD Tryd.prog 47 [.l [Bo true, Bo false], .l [Bo true, Bo false]] (Bo true) := by
  exact bools_spec [true, false] [true, false] (by decide)
theorem pf3_call  (pure : Bool) (σ : St) (dst : Option Tmp) (K : St → Prop) : CallH Tryd.prog 47 [.l [Bo true, Bo false], .l [Bo true, Bo false]] pure σ dst (.mk : Hid K) = OrH ((pure || D.flat (Bo true)) = true ∧ evK (σ.put dst (.d (Bo true))) (.mk : Hid K)) (.mk : Hid (CallH Tryd.prog 47 [.l [Bo true, Bo false], .l [Bo true, Bo false]] pure σ dst (.mk : Hid K))) := CallH.eq0 (pf3_spec ) pure σ dst K
theorem pf3_callQ  (pure : Bool) (C : V → Prop) : CallQ Tryd.prog 47 [.l [Bo true, Bo false], .l [Bo true, Bo false]] pure (.mk : Hid C) = OrH ((pure || D.flat (Bo true)) = true ∧ evK (V.d (Bo true)) (.mk : Hid C)) (.mk : Hid (CallQ Tryd.prog 47 [.l [Bo true, Bo false], .l [Bo true, Bo false]] pure (.mk : Hid C))) := CallQ.eq0 (pf3_spec ) pure C
theorem pairsfact_spec  : FnD Tryd.prog 35 [] (Bo true) := by
  refine FnD.go Tryd.func35 rfl rfl Tryd.results35 Tryd.ntmps35 ?_
  simp (implicitDefEqProofs := false) (dsimp := false) only [↓aw_seq, ↓aw_reg, ↓Qseq_n, ↓ops_nil, ↓ops_cons, ↓eval_tmp, ↓eval_int, ↓eval_bool, ↓eval_func, ↓put_some, ↓put_none, ↓dK_d, ↓sboxK_s, ↓ldK_p, ↓op_assign, ↓op_load, ↓op_build, ↓op_call, ↓op_alloc, ↓op_store, isD_d, ↓fnK_f, ↓call_H, ↓callK_H, ↓allT_nil, ↓allT_cons, ↓allD_nil, ↓allD_cons, ↓td_d, ↓addBox_mk, ↓setBox_mk, ↓st_bx, ↓cells_c, ↓cells_s, ↓vcells_s, ↓one_i, ↓one_b, ↓vone_d, constV_a, ↓st_p, ↓bs_, ↓op_bs, ↓bsL_f, ↓stored_mk, ↓sl_nil, ↓sl_cons, ↓sT_move, ↓sT_assign, ↓sT_load, ↓sT_extract, ↓sT_build, ↓sT_bs, ↓sT_call, ↓vsz_agg, ↓inO_1, ↓fm_nil, ↓fm_cons, ↓sl45, ↓ty91, ↓zb91, ↓bd91, ↓ty93, ↓zb93, ↓bd93, List.getD_cons_zero, List.getD_cons_succ, List.set_cons_zero, List.set_cons_succ, List.cons_append, List.nil_append, List.append_nil, List.map_cons, List.map_nil, List.length_cons, List.length_nil, List.all_cons, List.all_nil, Bool.and_true, Bool.true_and, Bool.and_self, Bool.or_false, Nat.reduceAdd, Nat.reduceSub, Nat.reduceMul, Nat.zero_add, List.replicate, evK_go, reduceIte, Nat.reduceEqDiff, Nat.reduceLT, and_self, true_and, and_true, Int.zero_add, List.drop_zero, List.take_succ_cons, List.take_nil]
  simp (implicitDefEqProofs := false) (dsimp := false) only [pf1_call, pf2_call, pf3_call, eerr_call, eval_nilI, ↓er_eql, ↓cdK_true, ↓gdK_t, ↓gval_mk, ↓gvL_zero, ↓gvL_succ, ↓nthK_H, ↓nthH_zero, ↓nthH_succ, ↓aw_seq, ↓aw_ret, ↓aw_reg, ↓Qseq_n, ↓Qret_r, ↓ops_nil, ↓ops_cons, ↓ops_guard, ↓eval_tmp, ↓eval_int, ↓eval_bool, ↓eval_func, ↓put_some, ↓bK_b, ↓dK_d, ↓tK_t, ↓sboxK_s, ↓ldK_p, ↓op_move, ↓op_assign, ↓op_pick, ↓op_load, ↓op_bin, ↓op_extract, ↓op_build, ↓op_call, ↓orH_T, isD_d, ↓fnK_f, ↓call_H, ↓callK_H, ↓allT_nil, ↓allT_cons, ↓allD_nil, ↓allD_cons, ↓td_d, ↓ret_1, ↓st_tm, ↓cells_c, ↓cells_s, ↓one_i, ↓one_b, ↓bs_, ↓op_bs, ↓bsL_f, ↓stored_mk, ↓sl_nil, ↓sl_cons, ↓sT_move, ↓sT_assign, ↓sT_pick, ↓sT_load, ↓sT_bin, ↓sT_extract, ↓sT_build, ↓sT_bs, ↓sT_call, ↓vsz_bool, ↓vsz_agg, ↓inO_2, ↓fm_nil, ↓fm_cons, ↓ty4, ↓zb4, ↓sl45, ↓sl46, ↓ty91, ↓ty93, ↓zb93, ↓bd93, List.getD_cons_zero, List.getD_cons_succ, List.set_cons_zero, List.set_cons_succ, List.cons_append, List.nil_append, List.append_nil, List.map_cons, List.map_nil, List.length_cons, List.length_nil, List.all_cons, List.all_nil, Bool.and_true, Bool.true_and, Bool.and_self, Bool.true_or, Bool.or_false, Nat.reduceAdd, Nat.reduceSub, Nat.reduceMul, Nat.zero_add, evK_go, reduceIte, decide_true, Nat.reduceEqDiff, Nat.reduceLT, and_self, true_and, and_true, Int.zero_add, List.drop_zero, List.take_succ_cons, List.take_nil]
  (repeat (first | refine OrH.l ?_ | refine ⟨⟨rfl, by decide⟩, ?_⟩ | refine ⟨by decide, ?_⟩ | refine ⟨by omega, ?_⟩ | exact ⟨rfl, by decide⟩ | decide))
theorem pairsfact_call  (pure : Bool) (σ : St) (dst : Option Tmp) (K : St → Prop) : CallH Tryd.prog 35 [] pure σ dst (.mk : Hid K) = OrH ((pure || D.flat (Bo true)) = true ∧ evK (σ.put dst (.d (Bo true))) (.mk : Hid K)) (.mk : Hid (CallH Tryd.prog 35 [] pure σ dst (.mk : Hid K))) := CallH.eq0 (pairsfact_spec ) pure σ dst K
theorem pairsfact_callQ  (pure : Bool) (C : V → Prop) : CallQ Tryd.prog 35 [] pure (.mk : Hid C) = OrH ((pure || D.flat (Bo true)) = true ∧ evK (V.d (Bo true)) (.mk : Hid C)) (.mk : Hid (CallQ Tryd.prog 35 [] pure (.mk : Hid C))) := CallQ.eq0 (pairsfact_spec ) pure C
/-- What an answer comes to. -/
theorem solve_ok {n : Int} {l : List OrT} (h : solveE n l = 0) : ockE n l = 0 ∧ ∃ o, solve n.toNat (clN l) = some o ∧ solveR n l = o ∧ o.length = n.toNat := by
  have h0 : ockE n l = 0 := by
    unfold solveE at h
    by_cases h0 : ockE n l = 0
    · exact h0
    · rw [if_neg h0] at h; exact absurd h h0
  obtain ⟨hn, _, hin⟩ := ock_ok h0
  have e1 : solveR n l = (solveO n l).getD [] := if_pos h0
  have e2 : solveE n l = if (solveO n l).isSome then 0 else 5 := if_pos h0
  rw [e2] at h
  cases hs : solveO n l with
  | none => rw [hs] at h; cases h
  | some o =>
    have h1 := solve_some (n := n.toNat) (by omega) (clN_good hin) hs
    exact ⟨h0, o, hs, by rw [e1, hs]; rfl, h1.1⟩
theorem solve_bad {n : Int} {l : List OrT} (h : ¬ solveE n l = 0) : solveR n l = [] := by
  unfold solveE at h
  unfold solveR
  split
  · rename_i h0
    rw [if_pos h0] at h
    cases hs : solveO n l with
    | none => rfl
    | some o => rw [hs] at h; exact absurd rfl h
  · rfl
theorem firstE_of {α : Type} {f : α → Int} {l : List α} (h : ∀ x ∈ l, f x = 0) : firstE f l = 0 := by
  induction l with
  | nil => rfl
  | cons x l ih =>
    simp (implicitDefEqProofs := false) (dsimp := false) only [firstE, h x (by simp), if_true]
    exact ih fun y hy => h y (by simp [hy])
theorem ock_sub {n : Int} {l l' : List OrT} (h : ockE n l = 0) (hl : l'.length ≤ l.length) (hs : ∀ o ∈ l', o ∈ l) : ockE n l' = 0 := by
  unfold ockE at h ⊢
  split at h
  · cases h
  rename_i h1
  rw [if_neg h1]
  split at h
  · cases h
  rw [if_neg (by omega)]
  exact firstE_of fun o ho => firstE_zero h o (hs o ho)
/-- With fewer ors: an answer still. -/
theorem solve_less {n : Int} {l l' : List OrT} (h : solveE n l = 0) (hl : l'.length ≤ l.length) (hs : ∀ o ∈ l', o ∈ l) : solveE n l' = 0 ∧ rightB (clN l') (solveR n l) = true := by
  obtain ⟨h0, o, ho, e1, _⟩ := solve_ok h
  obtain ⟨hn, _, hin⟩ := ock_ok h0
  have h0' := ock_sub h0 hl hs
  have hin' : OrsIn n.toNat l' := fun q hq => hin q (hs q hq)
  obtain ⟨o', h2, h3⟩ := solve_sub (n := n.toNat) (by omega) (clN_good hin) (clN_good hin') (fun c hc => by
    obtain ⟨q, hq, rfl⟩ := List.mem_map.1 hc
    exact List.mem_map.2 ⟨q, hs q hq, rfl⟩) ho
  refine ⟨?_, by rw [e1]; exact h3⟩
  unfold solveE solveO
  rw [if_pos h0', h2]; rfl
/-- Where a right answer first parts from ours it says yes. -/
theorem solve_first {n : Int} {l : List OrT} (h : solveE n l = 0) {a : List Bool} (ha : rightB (clN l) a = true) {i : Nat} (hi : i < n.toNat) (hp : ∀ j, j < i → a.getD j default = (solveR n l).getD j default) (hne : (solveR n l).getD i default ≠ a.getD i default) : a.getD i default = true := by
  obtain ⟨h0, o, ho, e1, _⟩ := solve_ok h
  obtain ⟨hn, _, hin⟩ := ock_ok h0
  rw [e1] at hp hne
  exact first_yes (n := n.toNat) (by omega) (clN_good hin) ho ha hi hp hne
end Go.Proofs

namespace Go.Proofs
open Go.Aw Go.ChangeShapes Go.WideShapes Go.ChangeAt Go.RowKit Go.Deep
set_option linter.unusedVariables false
set_option maxRecDepth 100000
theorem tu46 : Tryd.prog.underlying 46 = some (.slice 4) := by kernel_rfl
theorem tc4b : Tryd.prog.cellsOf 4 = 1 := by kernel_rfl
theorem tb4 : Tryd.prog.bytesOf 4 = 1 := by kernel_rfl
section
variable {H : Type} {enc : TypeId × Value → H} {W : World} {held : Bool}
theorem bools_rel {W : World} {a : Addr} {len cap : Nat} (B : Nat → Bool) (hl : len ≤ cap) (hc : ∀ i, i < len → W.cell? (a.add i) = some (.bool (B i))) :
    RelD W (Old W) (.l (((List.range len).map B).map Bo)) (.slice (some a) len cap) := by
  by_cases h0 : len = 0
  · subst h0; exact .nl _ _
  have hxs : ∀ (i : Nat) (x : D), (((List.range len).map B).map Bo)[i]? = some x → i < len ∧ x = Bo (B i) := by
    intro i x hx
    rw [List.getElem?_map, List.getElem?_map] at hx
    by_cases hi : i < len
    · rw [List.getElem?_range hi] at hx
      simp at hx
      exact ⟨hi, hx.symm⟩
    · rw [List.getElem?_eq_none (by simp; omega)] at hx; cases hx
  have hlen : len = (((List.range len).map B).map Bo).length := by simp
  have hrel := RelD.l (w := W) (N := Old W) (((List.range len).map B).map Bo) a cap 1 (fun i k => .bool (B i)) (by rw [← hlen]; exact hl) (old_cell (hc 0 (by omega))) ?_ ?_ ?_
  · rw [← hlen] at hrel
    exact hrel
  · intro i x hx
    obtain ⟨_, rfl⟩ := hxs i x hx
    rfl
  · intro i k x y hx hy
    obtain ⟨hi, rfl⟩ := hxs i x hx
    match k, hy with
    | 0, hy => rw [show i * 1 + 0 = i by omega]; exact hc i hi
  · intro i k x y hx hy
    obtain ⟨hi, rfl⟩ := hxs i x hx
    match k, hy with
    | 0, hy => cases hy; exact .c _
theorem arg_bools {v : Value} {d : DataW H} {p : List MemPlace} {r : Reach} {b0 : Nat} (hval : Value.okWide Tryd.prog W r b0 46 v) (h : DataW.Trod enc Tryd.prog W 0 (fun _ => true) held 46 v d p) :
    ∃ l : List Bool, RelD W (Old W) (.l (l.map Bo)) v ∧ ((d = .nil ∧ l = []) ∨ ∃ elems spare, d = .slice elems spare ∧ elems.length = l.length) := by
  obtain ⟨a0, len, cap, rfl⟩ := okWide_slice tu46 hval
  obtain ⟨fuel, hf⟩ := h
  rcases open_bools tu46 tu4 tc4b hf with ⟨hcs, hx⟩ | ⟨a, len', cap', B, hcs, _, hl, hm, hx, hc⟩
  · simp [Value.cells] at hcs
    obtain ⟨rfl, rfl, rfl⟩ := hcs
    simp (implicitDefEqProofs := false) (dsimp := false) only [Prod.mk.injEq] at hx
    exact ⟨[], .nl none 0, .inl ⟨hx.1, rfl⟩⟩
  · simp [Value.cells] at hcs
    obtain ⟨rfl, rfl, rfl⟩ := hcs
    simp (implicitDefEqProofs := false) (dsimp := false) only [Prod.mk.injEq] at hx
    exact ⟨(List.range len).map B, bools_rel B hl (fun i hi => hc i (by omega)), .inr ⟨_, _, hx.1, by simp⟩⟩
theorem bools_len {ts : List TypeId} {ds : List (DataW H)} {j : Nat} {l : List Bool} (h : (DataW.weightsEach Tryd.prog ts ds).all (· ≤ reachBytes) = true) (ht : ts[j]? = some 46) {d : DataW H} (hd : ds[j]? = some d)
    (hl : (d = .nil ∧ l = []) ∨ ∃ elems spare, d = .slice elems spare ∧ elems.length = l.length) : l.length < 2 ^ 48 := by
  rcases hl with ⟨_, rfl⟩ | ⟨elems, spare, rfl, e⟩
  · simp
  · have := sized_slice h ht hd tu46
    rw [tb4] at this
    have := reachBytes_lt
    omega
end
end Go.Proofs

namespace Go.Proofs
open Go.Aw
set_option linter.unusedSimpArgs false
set_option maxRecDepth 10000
theorem lPairsRight_spec (n : Int) (l : List OrT) (a : List Bool) (hn : -9223372036854775808 ≤ n ∧ n ≤ 9223372036854775807) (hl : l.length < 2 ^ 43) (ha : a.length < 2 ^ 48) : FnD Tryd.prog 10 [I .i64 n, .l (l.map orD), .l (a.map Bo)] (Bo true) := by
  have hl62 : l.length < 2 ^ 62 := by omega
  have ha62 : a.length < 2 ^ 62 := by omega
  refine FnD.go Tryd.func10 rfl rfl Tryd.results10 Tryd.ntmps10 ?_
  simp (implicitDefEqProofs := false) (dsimp := false) only [↓aw_seq, ↓aw_reg, ↓Qseq_n, ↓ops_nil, ↓ops_cons, ↓eval_bool, ↓eval_func, ↓put_some, ↓op_assign, ↓op_call, isD_d, ↓fnK_f, ↓call_H, ↓callK_H, ↓allT_nil, ↓td_d, List.set_cons_zero, List.set_cons_succ, List.cons_append, List.nil_append, List.append_nil, List.map_cons, List.map_nil, List.length_cons, List.length_nil, List.all_nil, Bool.and_self, Nat.reduceAdd, Nat.reduceSub, Nat.reduceMul, Nat.zero_add, List.replicate, evK_go, reduceIte, Nat.reduceEqDiff, Nat.reduceLT, and_self, Int.zero_add]
  simp (implicitDefEqProofs := false) (dsimp := false) only [pairsfact_call, psolve_call, pis_call, hl62, ha62, eval_nilI, ↓er_neq, ↓cdK_false, ↓cdK_not, ↓nthK_H, ↓nthH_zero, ↓nthH_succ, ↓aw_cond, ↓aw_seq, ↓aw_skip, ↓aw_reg, ↓Qseq_n, ↓ops_nil, ↓ops_cons, ↓eval_tmp, ↓eval_func, ↓put_some, ↓bK_b, ↓tK_t, ↓op_move, ↓op_assign, ↓op_bin, ↓op_not, ↓op_extract, ↓op_call, isD_d, ↓fnK_f, ↓call_H, ↓callK_H, ↓allT_nil, ↓allT_cons, ↓td_d, List.getD_cons_zero, List.getD_cons_succ, List.set_cons_zero, List.set_cons_succ, List.append_nil, List.all_cons, List.all_nil, Bool.true_and, Bool.and_self, Bool.true_or, Nat.reduceAdd, Nat.reduceSub, Nat.reduceMul, evK_go, reduceIte, Bool.not_true, Nat.reduceEqDiff, Nat.reduceLT, and_self, true_and]
  (repeat refine OrH.l ?_)
  cases hs0 : decide (solveE n l = 0) with
  | false =>
    have hs := of_decide_eq_false hs0
    have e1 := solve_bad hs
    have hp : pisB n l a = false := by
      cases hb : pisB n l a with
      | false => rfl
      | true =>
        exfalso
        unfold pisB at hb
        rw [Bool.and_eq_true, decide_eq_true_eq] at hb
        obtain ⟨h1, h2⟩ := hb
        have h0 : ockE n l = 0 := by
          unfold pisE at h1
          by_cases h0 : ockE n l = 0
          · exact h0
          · rw [if_neg h0] at h1; exact absurd h1 h0
        obtain ⟨hn4, _, hin⟩ := ock_ok h0
        have h3 : solve n.toNat (clN l) = none := by
          unfold solveE solveO at hs
          rw [if_pos h0] at hs
          cases e : solve n.toNat (clN l) with
          | none => rfl
          | some o => rw [e] at hs; exact absurd rfl hs
        rw [(solve_none_iff (n := n.toNat) (by omega) (clN_good hin)).1 h3] at h2
        cases h2
    simp (implicitDefEqProofs := false) (dsimp := false) only [e1, hp, ↓cdK_true, ↓cdK_false, ↓gdK_t, ↓gval_mk, ↓gvL_zero, ↓gvL_succ, ↓aw_seq, ↓aw_ret, ↓aw_reg, ↓Qseq_n, ↓Qseq_r, ↓Qret_r, ↓ops_nil, ↓ops_cons, ↓ops_guard, ↓eval_tmp, ↓eval_int, ↓put_some, ↓bK_b, ↓lenK_l, ↓binE_i, ↓bi_eql, ↓op_move, ↓op_assign, ↓op_pick, ↓op_bin, ↓op_not, ↓op_len, ↓td_d, ↓ret_1, ↓st_tm, ↓sl46, List.getD_cons_zero, List.getD_cons_succ, List.set_cons_zero, List.set_cons_succ, List.map_nil, List.length_nil, Nat.reduceAdd, Nat.reduceSub, Nat.reduceMul, evK_go, reduceIte, decide_true, Bool.not_false, Nat.reduceEqDiff, Nat.reduceLT, Int.cast_ofNat_Int]
  | true =>
    have hs := of_decide_eq_true hs0
    obtain ⟨h0, o, ho, e1, hol⟩ := solve_ok hs
    obtain ⟨hn4, _, hin⟩ := ock_ok h0
    have hnn : n = (n.toNat : Int) := by omega
    have hm62 : (solveR n l).length < 2 ^ 62 := by rw [e1]; omega
    have hlen1 : (solveR n l).length = n.toNat := by rw [e1]; exact hol
    have hrm := (solve_less hs (Nat.le_refl _) (fun o ho => ho)).2
    have hme : pisE n l (solveR n l) = 0 := by unfold pisE; rw [if_pos h0, if_pos (by omega)]
    have hmb : pisB n l (solveR n l) = true := by unfold pisB; rw [hme, hrm]; rfl
    have hla : decide (((solveR n l).length : Int) = n) = true := decide_eq_true (by omega)
    simp (implicitDefEqProofs := false) (dsimp := false) only [pis_call, hl62, hm62, hme, hmb, hla, eval_nilI, ↓er_neq, ↓cdK_true, ↓cdK_false, ↓cdK_not, ↓gdK_f, ↓gval_mk, ↓gvL_zero, ↓gvL_succ, ↓nthK_H, ↓nthH_zero, ↓nthH_succ, ↓aw_cond, ↓aw_seq, ↓aw_skip, ↓aw_reg, ↓Qseq_n, ↓ops_nil, ↓ops_cons, ↓ops_guard, ↓eval_tmp, ↓eval_func, ↓put_some, ↓bK_b, ↓lenK_l, ↓tK_t, ↓binE_i, ↓bi_neq, ↓op_move, ↓op_assign, ↓op_pick, ↓op_bin, ↓op_not, ↓op_extract, ↓op_len, ↓op_call, isD_d, ↓fnK_f, ↓call_H, ↓callK_H, ↓allT_nil, ↓allT_cons, ↓td_d, ↓st_tm, ↓sl46, List.getD_cons_zero, List.getD_cons_succ, List.set_cons_zero, List.set_cons_succ, List.append_nil, List.length_map, List.all_cons, List.all_nil, Bool.true_and, Bool.and_self, Bool.true_or, Nat.reduceAdd, Nat.reduceSub, Nat.reduceMul, evK_go, reduceIte, decide_true, Bool.not_true, Nat.reduceEqDiff, Nat.reduceLT, and_self, true_and]
    (repeat refine OrH.l ?_)
    have hpa : pisE n l a = 0 → pisB n l a = rightB (clN l) a ∧ (a.length : Int) = n := fun h => by
      refine ⟨by unfold pisB; rw [h]; rfl, ?_⟩
      unfold pisE at h
      rw [if_pos h0] at h
      by_cases h5 : (a.length : Int) = n
      · exact h5
      · rw [if_neg h5] at h; cases h
    refine cdK_dec (fun h1 => ?_) (fun h1 => ?_)
    rotate_left
    · simp (implicitDefEqProofs := false) (dsimp := false) only [decide_eq_false h1, ↓cdK_true, ↓gdK_f, ↓gval_mk, ↓gvL_zero, ↓gvL_succ, ↓aw_cond, ↓aw_seq, ↓aw_ret, ↓aw_reg, ↓Qseq_n, ↓Qseq_r, ↓Qret_r, ↓ops_nil, ↓ops_cons, ↓ops_guard, ↓eval_tmp, ↓eval_bool, ↓put_some, ↓bK_b, ↓op_assign, ↓op_pick, ↓td_d, ↓ret_1, ↓st_tm, List.getD_cons_zero, List.getD_cons_succ, List.set_cons_zero, List.set_cons_succ, Nat.reduceAdd, Nat.reduceSub, Nat.reduceMul, evK_go, reduceIte, Bool.not_false, Nat.reduceEqDiff, Nat.reduceLT]
    obtain ⟨h2, h3⟩ := hpa h1
    cases hB : pisB n l a with
    | false => simp (implicitDefEqProofs := false) (dsimp := false) only [decide_eq_true h1, ↓cdK_true, ↓cdK_false, ↓gdK_f, ↓gval_mk, ↓gvL_zero, ↓gvL_succ, ↓aw_cond, ↓aw_seq, ↓aw_ret, ↓aw_reg, ↓Qseq_n, ↓Qseq_r, ↓Qret_r, ↓ops_nil, ↓ops_cons, ↓ops_guard, ↓eval_tmp, ↓eval_bool, ↓put_some, ↓bK_b, ↓op_move, ↓op_assign, ↓op_pick, ↓op_not, ↓td_d, ↓ret_1, ↓st_tm, List.getD_cons_zero, List.getD_cons_succ, List.set_cons_zero, List.set_cons_succ, Nat.reduceAdd, Nat.reduceSub, Nat.reduceMul, evK_go, reduceIte, Bool.not_true, Bool.not_false, Nat.reduceEqDiff, Nat.reduceLT]
    | true =>
      rw [h2] at hB
      have hfirst := fun i hi hp hne => solve_first hs hB (i := i) hi hp hne
      simp (implicitDefEqProofs := false) (dsimp := false) only [decide_eq_true h1, ↓cdK_false, ↓gdK_f, ↓gval_mk, ↓gvL_zero, ↓gvL_succ, ↓aw_cond, ↓aw_seq, ↓aw_block, ↓aw_skip, ↓aw_loop, ↓aw_reg, ↓Qseq_n, ↓ops_nil, ↓ops_cons, ↓ops_guard, ↓eval_tmp, ↓eval_int, ↓put_some, ↓bK_b, ↓op_move, ↓op_assign, ↓op_pick, ↓op_not, ↓st_tm, List.getD_cons_zero, List.getD_cons_succ, List.set_cons_zero, List.set_cons_succ, Nat.reduceAdd, Nat.reduceSub, Nat.reduceMul, evK_go, reduceIte, Bool.not_true, Nat.reduceEqDiff, Nat.reduceLT]
      clear hpa h2 e1 ho hol hme hmb hin
      generalize hN : n.toNat = N at *
      subst hnn
      generalize solveR (N : Int) l = m at *
      refine loopW (fun i : Nat => { tm := slots 83 [(0, .d (I .i64 (N : Int))), (2, .d (.l (a.map Bo))), (8, .d (.l (m.map Bo))), (14, .d (I .i64 i))], bx := [], rw := [] })
        (fun i => i ≤ N ∧ ∀ j, j < i → a.getD j default = m.getD j default) (fun i => N - i) 0 ⟨by simp, fun j hj => by omega⟩ ?_ ?_
      · refine Wkn.of [] [] ?_; simp (implicitDefEqProofs := false) (dsimp := false) only [List.set_cons_zero, List.set_cons_succ, Bool.and_self, Nat.reduceAdd, Nat.reduceSub, Nat.reduceMul, List.replicate, evK_go, reduceIte, Nat.reduceEqDiff, Nat.reduceLT, and_self, List.foldl_cons, List.foldl_nil, Int.cast_ofNat_Int, slots, wkL_nil, wkL_cons, wkB_nil, wkR_nil, wkV_j, wkV_d, frz_d, reduceCtorEq]
      · rintro i ⟨hi, hp⟩
        simp (implicitDefEqProofs := false) (dsimp := false) only [slots, ↓aw_cond, ↓aw_seq, ↓aw_reg, ↓Qseq_n, ↓ops_nil, ↓ops_cons, ↓eval_tmp, ↓put_some, ↓bK_b, ↓binE_i, ↓bi_lss, ↓op_move, ↓op_bin, List.getD_cons_zero, List.getD_cons_succ, List.set_cons_zero, List.set_cons_succ, Nat.reduceAdd, Nat.reduceSub, Nat.reduceMul, List.replicate, evK_go, reduceIte, Nat.reduceEqDiff, Nat.reduceLT, List.foldl_cons, List.foldl_nil, Int.ofNat_lt]
        refine cdK_dec (fun h2 => ?_) (fun h2 => ?_)
        · have him : i < m.length := by omega
          have hix : i < a.length := by omega
          simp (implicitDefEqProofs := false) (dsimp := false) only [him, hix, ↓bo_neq, ↓cdK_not, ↓atK_H, ↓atH_map, ↓aw_cond, ↓aw_seq, ↓aw_block, ↓aw_skip, ↓aw_draw, ↓Qseq_n, ↓eval_tmp, ↓put_some, ↓bK_b, ↓iK_i, ↓ev_move, ↓ev_load, ↓ev_bin, ↓ev_ia, ↓ldK_q, ↓iaK_l, ↓draw_H, ↓h_nil, ↓h_cons, ↓ldH_n, ↓q_move, ↓q_load, ↓q_bin, ↓q_ia, ↓il_move, ↓il_load, ↓il_bin, ↓il_ia, ↓cells_c, ↓hd_cons, ↓ty4, ↓sl46, List.getD_cons_zero, List.getD_cons_succ, List.set_cons_zero, List.set_cons_succ, List.length_cons, List.length_nil, Bool.true_and, Nat.reduceAdd, Nat.reduceSub, Nat.reduceMul, Nat.zero_add, Int.toNat_natCast, evK_go, reduceIte, Nat.reduceEqDiff, Nat.reduceLT, true_and, Int.zero_add, Int.natCast_nonneg]
          refine OrH.l ⟨DrawH.of follows_mixed (by kernel_rfl), ?_⟩
          cases hxm : (m.getD i default == a.getD i default) with
          | true =>
            simp (implicitDefEqProofs := false) (dsimp := false) only [↓cdK_true, ↓aw_skip, ↓aw_reg, ↓Qseq_n, ↓Qblk_n, ↓ops_nil, ↓ops_cons, ↓eval_tmp, ↓eval_int, ↓put_some, ↓binE_i, ↓bi_add, ↓in_i64, ↓op_move, ↓op_assign, ↓op_bin, List.getD_cons_zero, List.getD_cons_succ, List.set_cons_zero, List.set_cons_succ, Nat.reduceAdd, Nat.reduceSub, Nat.reduceMul, evK_go, reduceIte, Bool.not_true, Nat.reduceEqDiff, Nat.reduceLT]
            refine ⟨by omega, i + 1, ⟨by omega, fun j hj => ?_⟩, by omega, ?_⟩
            · by_cases e : j = i
              · subst e; exact (beq_iff_eq.1 hxm).symm
              · exact hp j (by omega)
            · refine Wkn.of [] [] ?_; simp (implicitDefEqProofs := false) (dsimp := false) only [List.set_cons_zero, List.set_cons_succ, Bool.and_self, Nat.reduceAdd, Nat.reduceSub, Nat.reduceMul, List.replicate, evK_go, reduceIte, Nat.reduceEqDiff, Nat.reduceLT, and_self, List.foldl_cons, List.foldl_nil, Int.cast_ofNat_Int, Int.natCast_add, slots, wkL_nil, wkL_cons, wkB_nil, wkR_nil, wkV_j, wkV_d, frz_d, reduceCtorEq]
          | false =>
            have := hfirst i (by omega) hp (fun e => by rw [e] at hxm; simp at hxm)
            simp (implicitDefEqProofs := false) (dsimp := false) only [hix, this, ↓cdK_false, ↓atK_H, ↓atH_map, ↓aw_seq, ↓aw_ret, ↓aw_reg, ↓Qseq_n, ↓Qseq_r, ↓Qblk_r, ↓Qret_r, ↓ops_nil, ↓ops_cons, ↓eval_tmp, ↓put_some, ↓iK_i, ↓ldK_q, ↓iaK_l, ↓op_move, ↓op_assign, ↓op_load, ↓op_ia, ↓td_d, ↓ret_1, ↓cells_c, ↓hd_cons, ↓ty4, ↓sl46, List.getD_cons_zero, List.getD_cons_succ, List.set_cons_zero, List.set_cons_succ, List.length_cons, List.length_nil, Bool.and_self, Nat.reduceAdd, Nat.reduceSub, Nat.reduceMul, Nat.zero_add, Int.toNat_natCast, evK_go, reduceIte, Bool.not_false, Nat.reduceEqDiff, Nat.reduceLT, and_self, Int.zero_add, Int.natCast_nonneg]
        · simp (implicitDefEqProofs := false) (dsimp := false) only [↓aw_seq, ↓aw_exit, ↓aw_ret, ↓aw_reg, ↓Qseq_n, ↓Qseq_x, ↓Qblk_x, ↓Qret_r, ↓ops_nil, ↓ops_cons, ↓eval_tmp, ↓eval_bool, ↓put_some, ↓op_assign, ↓td_d, ↓ret_1, List.getD_cons_zero, List.getD_cons_succ, List.set_cons_zero, List.set_cons_succ, Nat.reduceAdd, Nat.reduceSub, Nat.reduceMul, evK_go, reduceIte, Nat.reduceEqDiff, Nat.reduceLT]
end Go.Proofs

namespace Go.Proofs
set_option maxRecDepth 100000
theorem cutNo : ("cut".toList == "gc".toList || "cut".toList == "spec".toList) = false := by kernel_rfl
theorem cutNo2 : ("cut".toList == "carried".toList) = false := by kernel_rfl
theorem cutStrip (T : List (List Char)) : stripLifts liftWords ("cut".toList :: T) = ([], "cut".toList :: T) := by kernel_rfl
theorem make_of {P : Program} {T : List (List Char)} (h : behindMainWord (wordsSigns P.initOrder.toList) = "cut".toList :: T) : P.make = some .cut := by
  unfold Program.make
  rw [h]
  simp (implicitDefEqProofs := false) (dsimp := false) only [cutNo, beq_self_eq_true, Bool.true_or, Bool.false_eq_true, if_false, if_true]
theorem enter_of {P : Program} {T : List (List Char)} (h : behindMainWord (wordsSigns P.initOrder.toList) = "cut".toList :: T) (h1 : P.laysLater = false) (h2 : P.bearsReflect = false) (h3 : P.doorFits [] = true) : P.mayEnter = true := by
  unfold Program.mayEnter
  rw [h]
  simp (implicitDefEqProofs := false) (dsimp := false) only [cutStrip, cutNo, cutNo2, h1, h2, h3, List.head?_cons, beq_self_eq_true, Bool.not_false, Bool.or_true, Bool.and_true, Bool.true_and]
  rfl
theorem final_of {P : Program} {T : List (List Char)} (h : behindMainWord (wordsSigns P.initOrder.toList) = "cut".toList :: T) : P.liftsFinal = false := by
  unfold Program.liftsFinal Program.headLifts
  rw [h]
  simp (implicitDefEqProofs := false) (dsimp := false) only [cutStrip]
  kernel_rfl
theorem cutWord : behindMainWord (wordsSigns Tryd.prog.initOrder.toList) = "cut".toList :: (behindMainWord (wordsSigns Tryd.prog.initOrder.toList)).tail := by
  have h : Tryd.prog.initOrder.toList = _ := String.toList_ofList
  rw [h]
  show (_ : List (List Char)) = _
  kernel_rfl
theorem pLater : Tryd.prog.laysLater = false := by
  unfold Program.laysLater
  rw [← Array.any_toList]
  kernel_rfl
theorem pReflect : Tryd.prog.bearsReflect = false := by kernel_rfl
theorem pDoor : Tryd.prog.doorFits [] = true := by kernel_rfl
theorem pMake : Tryd.prog.make = some .cut := make_of cutWord
theorem pEnter : Tryd.prog.mayEnter = true := enter_of cutWord pLater pReflect pDoor
theorem pFinal : Tryd.prog.liftsFinal = false := final_of cutWord
theorem pLaid : laidOutB Tryd.prog = true := by kernel_rfl
theorem pRowed : mapsRowed Tryd.prog = true := by kernel_rfl
theorem pStops : (Tryd.prog.stops == []) = true := by kernel_rfl
theorem pKnobs : (Tryd.prog.stopKnobs == []) = true := by kernel_rfl
theorem pHeard : Tryd.prog.stopsHeard = true := by kernel_rfl
theorem pMain : Tryd.prog.mainIs = some (true, "ef528b23815b70c2662300e7e3ba81efdd8130d758234ace3c638d7836b90011".toList) := by
  have h : Tryd.prog.initOrder.toList = _ := String.toList_ofList
  unfold Program.mainIs
  rw [h]
  show (_ : Option (Bool × List Char)) = _
  kernel_rfl
theorem pLooks : true = Tryd.prog.looks [] := by kernel_rfl
theorem pOwn : ownKnob Tryd.prog.godebug = none := by kernel_rfl
theorem andB {a b : Bool} (ha : a = true) (hb : b = true) : (a && b) = true := by rw [ha, hb]; rfl
end Go.Proofs
