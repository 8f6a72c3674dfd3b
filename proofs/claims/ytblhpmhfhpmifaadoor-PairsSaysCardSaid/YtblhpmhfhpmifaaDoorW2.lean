/- Part W 2 of what the proof of PairsSays stands on: what the functions of the program compute. -/
import Derived.Test.YtblhpmhfhpmifaaDoorW1
import Derived.WalkKit
import Derived.LaidEql
import Derived.Stop.Asserts
import Derived.RowKitTokens
set_option linter.unusedVariables false
set_option linter.unusedSimpArgs false
namespace Go.Proofs
open Go.Aw
set_option linter.unusedSimpArgs false
set_option maxRecDepth 10000
def litK (q : LitT) : Nat := (litN q false).toNat
def clN (l : List OrT) : List (Nat × Nat) := l.map fun o => (litK o.1, litK o.2)
/-- All names lie within bounds. -/
def OrsIn (n : Nat) (l : List OrT) : Prop := ∀ o ∈ l, (0 ≤ o.1.1 ∧ o.1.1 < n) ∧ (0 ≤ o.2.1 ∧ o.2.1 < n)
theorem litN_false {q : LitT} {n : Nat} (h : 0 ≤ q.1 ∧ q.1 < n) : litN q false = (litK q : Int) ∧ litK q < 2 * n := by
  unfold litK litN
  split <;> omega
theorem litN_true {q : LitT} {n : Nat} (h : 0 ≤ q.1 ∧ q.1 < n) : litN q true = (neg (litK q) : Int) := by
  obtain ⟨x, b⟩ := q
  unfold litK litN neg
  cases b
  · simp (implicitDefEqProofs := false) (dsimp := false) only [bne, beq_self_eq_true, Bool.not_true, Bool.false_eq_true, if_false, reduceIte, show (false == true) = false from rfl, Bool.not_false]
    rw [if_pos (by omega)]; omega
  · simp (implicitDefEqProofs := false) (dsimp := false) only [bne, beq_self_eq_true, Bool.not_true, Bool.false_eq_true, if_false, reduceIte, show (true == false) = false from rfl, Bool.not_false]
    rw [if_neg (by omega)]; omega
theorem impL_snoc (l : List OrT) (o : OrT) : impL (clN (l ++ [o])) = impL (clN l) ++ [(neg (litK o.1), litK o.2), (neg (litK o.2), litK o.1)] := by simp [impL, clN]
theorem impL_len (l : List OrT) : (impL (clN l)).length = 2 * l.length := by
  induction l with
  | nil => rfl
  | cons o l ih => simp (implicitDefEqProofs := false) (dsimp := false) only [impL, clN, List.map_cons, List.flatMap_cons, List.length_append, List.length_cons, List.length_nil] at ih ⊢; omega
theorem clN_good {n : Nat} {l : List OrT} (h : OrsIn n l) : Good (2 * n) (clN l) := by
  intro p hp
  obtain ⟨o, ho, rfl⟩ := List.mem_map.1 hp
  exact ⟨(litN_false (h o ho).1).2, (litN_false (h o ho).2).2⟩
theorem point2_spec (x : Int) (b t : Bool) (hpre : 0 ≤ x ∧ x ≤ 8) : FnD Tryd.prog 114 [.s [I .i64 x, Bo b], Bo t] (I .i64 (litN (x, b) t)) := point_spec (x, b) t hpre
theorem point2_call (x : Int) (b t : Bool) (pure : Bool) (σ : St) (dst : Option Tmp) (K : St → Prop) : CallH Tryd.prog 114 [.s [I .i64 x, Bo b], Bo t] pure σ dst (.mk : Hid K) = OrH ((0 ≤ x ∧ x ≤ 8) ∧ (pure || D.flat (I .i64 (litN (x, b) t))) = true ∧ evK (σ.put dst (.d (I .i64 (litN (x, b) t)))) (.mk : Hid K)) (.mk : Hid (CallH Tryd.prog 114 [.s [I .i64 x, Bo b], Bo t] pure σ dst (.mk : Hid K))) := CallH.eq (point2_spec x b t) pure σ dst K
theorem point2_callQ (x : Int) (b t : Bool) (pure : Bool) (C : V → Prop) : CallQ Tryd.prog 114 [.s [I .i64 x, Bo b], Bo t] pure (.mk : Hid C) = OrH ((0 ≤ x ∧ x ≤ 8) ∧ (pure || D.flat (I .i64 (litN (x, b) t))) = true ∧ evK (V.d (I .i64 (litN (x, b) t))) (.mk : Hid C)) (.mk : Hid (CallQ Tryd.prog 114 [.s [I .i64 x, Bo b], Bo t] pure (.mk : Hid C))) := CallQ.eq (point2_spec x b t) pure C
theorem follows_spec (n : Nat) (l : List OrT) (hpre : n ≤ 4 ∧ l.length < 2 ^ 40 ∧ OrsIn n l) : FnR Tryd.prog 88 [I .i64 (n : Int), .l (l.map orD)] 1 ((outS (2 * n) (impL (clN l))).map U) := by
  obtain ⟨hn, hl, hin⟩ := hpre
  refine FnR.go Tryd.func88 rfl rfl Tryd.results88 Tryd.ntmps88 ?_
  simp (implicitDefEqProofs := false) (dsimp := false) only [↓aw_seq, ↓aw_block, ↓aw_loop, ↓aw_reg, ↓Qseq_n, ↓ops_nil, ↓ops_cons, ↓eval_tmp, ↓eval_int, ↓eval_nil, ↓put_some, ↓lenK_l, ↓op_move, ↓op_assign, ↓op_len, ↓sl45, List.getD_cons_zero, List.getD_cons_succ, List.set_cons_zero, List.set_cons_succ, List.cons_append, List.nil_append, List.map_cons, List.map_nil, List.length_cons, List.length_nil, List.length_map, Nat.reduceAdd, Nat.reduceSub, Nat.reduceMul, Nat.zero_add, List.replicate, evK_go, reduceIte, Nat.reduceEqDiff, Nat.reduceLT, Int.zero_add]
  refine loopW (fun k : Nat => { tm := slots 36 [(0, .d (I .i64 (n : Int))), (5, .o 0 0 (2 * k)), (8, .d (.l (l.map orD))), (9, .d (I .i64 l.length)), (10, .d (I .i64 k))], bx := [], rw := [some ⟨2, (impL (clN (l.take k))).map lnN⟩] })
    (fun k => k ≤ l.length) (fun k => l.length - k) 0 (by simp) ?_ ?_
  · refine Wkn.of [] [none] ?_
    simp (implicitDefEqProofs := false) (dsimp := false) only [↓row_xs, List.set_cons_zero, List.set_cons_succ, Bool.and_true, Bool.true_and, Bool.and_self, Nat.reduceAdd, Nat.reduceSub, Nat.reduceMul, List.replicate, evK_go, reduceIte, Nat.reduceEqDiff, Nat.reduceLT, and_self, true_and, and_true, List.take_zero, List.foldl_cons, List.foldl_nil, Int.cast_ofNat_Int, slots, wkL_nil, wkL_cons, wkB_nil, wkR_nil, wkR_new, wkV_j, wkV_d, nlK_nl, wkV_o, frz_d, oK_zn, reduceCtorEq]
    simp [clN, impL]
  · intro k hk
    simp (implicitDefEqProofs := false) (dsimp := false) only [slots, ↓aw_cond, ↓aw_seq, ↓aw_reg, ↓Qseq_n, ↓ops_nil, ↓ops_cons, ↓eval_tmp, ↓put_some, ↓bK_b, ↓binE_i, ↓bi_lss, ↓op_bin, List.getD_cons_zero, List.getD_cons_succ, List.set_cons_zero, List.set_cons_succ, Nat.reduceAdd, Nat.reduceSub, Nat.reduceMul, List.replicate, evK_go, reduceIte, Nat.reduceEqDiff, Nat.reduceLT, List.foldl_cons, List.foldl_nil, Int.ofNat_lt]
    refine cdK_dec (fun h => ?_) (fun h => ?_)
    · obtain ⟨o1, o2⟩ := hin _ (getD_mem h)
      have hs := impL_snoc (l.take k) (l.getD k default)
      have hlen' : (impL (clN (l.take k))).length = 2 * k := by rw [impL_len, List.length_take]; omega
      rw [← take_succ_getD h] at hs
      generalize hab : l.getD k default = o at o1 o2 hs
      obtain ⟨⟨x, b⟩, y, c⟩ := o
      have p1 : (0 ≤ x ∧ x ≤ 8) := by simp only at o1; omega
      have p2 : (0 ≤ y ∧ y ≤ 8) := by simp only at o2; omega
      simp (implicitDefEqProofs := false) (dsimp := false) only [h, orD, hab, point2_callQ, p1, p2, litN_false o1, litN_false o2, litN_true o1, litN_true o2, ↓optK_some, ↓rwK_mk_, ↓atK_H, ↓atH_map, ↓aw_seq, ↓aw_block, ↓aw_skip, ↓aw_reg, ↓aw_draw, ↓Qseq_n, ↓Qblk_n, ↓ops_nil, ↓ops_cons, ↓eval_tmp, ↓eval_int, ↓eval_bool, ↓eval_func, ↓put_some, ↓put_none, ↓iK_i, ↓dK_d, ↓ev_move, ↓ev_load, ↓ev_fa, ↓ev_build, ↓binE_i, ↓bi_add, ↓in_i64, ↓ldK_q, ↓sboxK_s, ↓ldK_p, ↓faK_p, ↓iaK_l, ↓op_move, ↓op_assign, ↓op_load, ↓op_bin, ↓op_ia, ↓op_append, ↓op_alloc, ↓op_store, isD_d, ↓fnK_f, ↓callKQ_H, ↓allT_nil, ↓allT_cons, ↓allD_nil, ↓allD_cons, ↓td_d, ↓draw_H, ↓h_cons, ↓ldH_t, ↓ldH_n, ↓q_call, ↓q_bs, ↓q_move, ↓q_load, ↓q_fa, ↓q_build, ↓il_move, ↓il_load, ↓il_fa, ↓il_build, ↓il_bs, ↓il_call, ↓il_append, ↓addBox_mk, ↓setBox_mk, ↓app_mk, ↓st_bx, ↓row_sz, ↓row_xs, kill_d, kill_j, kill_p, kill_o, ↓cells_c, ↓cells_s, ↓vcells_s, ↓one_i, ↓one_b, ↓vone_d, constV_a, ↓st_p, ↓ap_, ↓ap_o, ↓src_l, ↓bs_, ↓vsz_agg, ↓inO_2, ↓fm_nil, ↓fm_cons, ↓sl22, ↓ty41, ↓zb41, ↓bd41, ↓sl45, ↓ty91, ↓ty93, ↓zb93, ↓fd93_0, ↓fd93_1, List.getD_cons_zero, List.getD_cons_succ, List.set_cons_zero, List.set_cons_succ, List.cons_append, List.nil_append, List.append_nil, List.map_cons, List.map_nil, List.length_cons, List.length_nil, List.length_map, List.all_cons, List.all_nil, Bool.true_and, Bool.and_self, Bool.true_or, Nat.reduceAdd, Nat.reduceSub, Nat.reduceMul, Nat.zero_add, Nat.add_zero, Int.toNat_natCast, evK_go, reduceIte, decide_true, Nat.reduceEqDiff, Nat.reduceLT, and_self, true_and, Int.zero_add, List.drop_zero, List.take_succ_cons, List.drop_succ_cons, List.take_zero, List.take_nil, Int.natCast_nonneg]
      refine ⟨by decide, ?_⟩
      (repeat refine OrH.l ?_)
      refine ⟨DrawH.of follows_mixed (by kernel_rfl), by decide, ?_⟩
      (repeat refine OrH.l ?_)
      refine ⟨by decide, ?_⟩
      (repeat refine OrH.l ?_)
      refine ⟨by decide, ?_⟩
      (repeat refine OrH.l ?_)
      refine ⟨by decide, ?_⟩
      (repeat refine OrH.l ?_)
      refine ⟨⟨rfl, by decide⟩, rfl, ⟨fun _ => trivial, hlen'.symm, by omega, by omega⟩, by omega, k + 1, by omega, by omega, ?_⟩
      refine Wkn.of [] [some 0] ?_
      simp (implicitDefEqProofs := false) (dsimp := false) only [hs, List.map_append, lnN, Nat.mul_succ, List.getD_cons_zero, List.set_cons_zero, List.set_cons_succ, List.map_cons, List.map_nil, Bool.and_self, Nat.reduceAdd, Nat.reduceSub, Nat.reduceMul, List.replicate, evK_go, reduceIte, Nat.reduceEqDiff, Nat.reduceLT, and_self, List.foldl_cons, List.foldl_nil, Int.cast_ofNat_Int, Int.natCast_add, slots, wkL_nil, wkL_cons, wkB_nil, wkR_nil, wkR_some, wkV_j, wkV_d, wkV_o, frz_d, oK_zs, reduceCtorEq]
    · obtain rfl : k = l.length := by omega
      have hl2 := impL_len l
      rw [List.take_length]
      have e2 : (2 : Int) * (n : Int) = ((2 * n : Nat) : Int) := by omega
      have e3 : List.take (2 * l.length) (List.map lnN (impL (clN l))) = List.map lnN (impL (clN l)) := List.take_of_length_le (by simp [hl2])
      have hgo := imp_good (clN_good hin)
      have hout : 2 * n ≤ 64 ∧ (impL (clN l)).length < 2 ^ 62 ∧ ∀ p ∈ impL (clN l), p.1 < 2 * n ∧ p.2 < 64 := ⟨by omega, by omega, fun p hp => by have := hgo p hp; omega⟩
      simp (implicitDefEqProofs := false) (dsimp := false) only [↓optK_some, ↓rwK_mk_, ↓aw_seq, ↓aw_exit, ↓aw_reg, ↓Qseq_n, ↓Qseq_x, ↓Qblk_x, ↓ops_cons, ↓eval_tmp, ↓eval_int, ↓eval_func, ↓put_some, ↓binE_i, ↓bi_mul, ↓in_i64, ↓op_move, ↓op_bin, ↓op_call, isD_d, isD_o, ↓fnK_f, ↓call_H, ↓callK_H, ↓allT_nil, ↓allT_cons, ↓td_d, ↓td_o, ↓row_xs, List.getD_cons_zero, List.getD_cons_succ, List.set_cons_zero, List.set_cons_succ, List.append_nil, List.all_cons, List.all_nil, Bool.and_true, Bool.and_false, Nat.reduceAdd, Nat.reduceSub, Nat.reduceMul, evK_go, reduceIte, decide_false, Nat.reduceEqDiff, Nat.reduceLT, and_true, Nat.lt_irrefl, List.drop_zero]
      refine ⟨by omega, ?_⟩
      simp (implicitDefEqProofs := false) (dsimp := false) only [e2, e3, out_call, hout, rflat_U, ↓optK_some, ↓rwK_mk_, ↓aw_ret, ↓Qseq_n, ↓ops_nil, ↓ops_cons, ↓eval_tmp, ↓put_some, ↓op_assign, ↓addRow_mk, ↓st_rw, ↓row_sz, ↓row_xs, ↓take_map, ↓Qrow_r, ↓rowK_o, List.getD_cons_zero, List.getD_cons_succ, List.set_cons_zero, List.set_cons_succ, List.cons_append, List.nil_append, List.length_cons, List.length_nil, List.length_map, Bool.and_true, Bool.true_and, Bool.and_self, Bool.or_true, Nat.reduceAdd, Nat.reduceSub, Nat.reduceMul, Nat.zero_add, evK_go, reduceIte, Nat.reduceEqDiff, Nat.reduceLT, and_self, true_and, and_true, Int.zero_add]
      (repeat refine OrH.l ?_)
      exact hout.2.2
theorem follows_call (n : Nat) (l : List OrT) (pure : Bool) (σ : St) (dst : Option Tmp) (K : St → Prop) : CallH Tryd.prog 88 [I .i64 (n : Int), .l (l.map orD)] pure σ dst (.mk : Hid K) = OrH ((n ≤ 4 ∧ l.length < 2 ^ 40 ∧ OrsIn n l) ∧ (pure || Res.flat (.row 1 ((outS (2 * n) (impL (clN l))).map U))) = true ∧ evK ((σ.addRow ⟨1, (outS (2 * n) (impL (clN l))).map U⟩).put dst (.o σ.rw.length 0 (List.length ((outS (2 * n) (impL (clN l))).map U)))) (.mk : Hid K)) (.mk : Hid (CallH Tryd.prog 88 [I .i64 (n : Int), .l (l.map orD)] pure σ dst (.mk : Hid K))) := CallH.eqR (fun h => follows_spec n l h) pure σ dst K
theorem follows_callD (n : Nat) (l : List OrT) (pure : Bool) (σ : St) (dst : Option Tmp) (K : St → Prop) : CallH Tryd.prog 88 [I .i64 (n : Int), .l (l.map orD)] pure σ dst (.mk : Hid K) = OrH ((n ≤ 4 ∧ l.length < 2 ^ 40 ∧ OrsIn n l) ∧ (pure || D.flat (.l ((outS (2 * n) (impL (clN l))).map U))) = true ∧ evK (σ.put dst (.d (.l ((outS (2 * n) (impL (clN l))).map U)))) (.mk : Hid K)) (.mk : Hid (CallH Tryd.prog 88 [I .i64 (n : Int), .l (l.map orD)] pure σ dst (.mk : Hid K))) := CallH.eq (fun h => ((fun h => follows_spec n l h) h).data) pure σ dst K
theorem follows_callDQ (n : Nat) (l : List OrT) (pure : Bool) (C : V → Prop) : CallQ Tryd.prog 88 [I .i64 (n : Int), .l (l.map orD)] pure (.mk : Hid C) = OrH ((n ≤ 4 ∧ l.length < 2 ^ 40 ∧ OrsIn n l) ∧ (pure || D.flat (.l ((outS (2 * n) (impL (clN l))).map U))) = true ∧ evK (V.d (.l ((outS (2 * n) (impL (clN l))).map U))) (.mk : Hid C)) (.mk : Hid (CallQ Tryd.prog 88 [I .i64 (n : Int), .l (l.map orD)] pure (.mk : Hid C))) := CallQ.eq (fun h => ((fun h => follows_spec n l h) h).data) pure C
end Go.Proofs

namespace Go.Proofs
open Go.Aw
set_option linter.unusedSimpArgs false
set_option maxRecDepth 10000
theorem nDI (s : List Nat) : s.map nD = (s.map Int.ofNat).map (I .i64) := by rw [List.map_map]; rfl
def lnR (x : List Nat) : D := .l (x.map nD)
def toN (L : List (List Int)) : List (List Nat) := L.map fun x => x.map Int.toNat
theorem toNat_back {x : List Int} (h : ∀ y ∈ x, 0 ≤ y) : (x.map Int.toNat).map Int.ofNat = x := by
  rw [List.map_map]
  conv => rhs; rw [← List.map_id x]
  refine List.map_congr_left fun y hy => ?_
  have := h y hy
  show ((y.toNat : Nat) : Int) = y
  omega
theorem liD_nat {x : List Int} (h : ∀ y ∈ x, 0 ≤ y) : liD x = lnR (x.map Int.toNat) := by
  unfold liD lnR
  rw [nDI, toNat_back h]
theorem liDs_nat {L : List (List Int)} (h : ∀ x ∈ L, ∀ y ∈ x, 0 ≤ y) : L.map liD = (toN L).map lnR := by
  unfold toN
  rw [List.map_map]
  exact List.map_congr_left fun x hx => liD_nat (h x hx)
theorem firstE_zero {α : Type} {f : α → Int} {l : List α} (h : firstE f l = 0) : ∀ x ∈ l, f x = 0 := by
  induction l with
  | nil => intro x hx; cases hx
  | cons y l ih =>
    intro x hx
    unfold firstE at h
    by_cases hy : f y = 0
    · rw [if_pos hy] at h
      rcases List.mem_cons.1 hx with rfl | hx
      · exact hy
      · exact ih h x hx
    · rw [if_neg hy] at h; exact absurd h hy
theorem rowE_zero {n : Nat} {x : List Int} (h : rowE n x = 0) : x.length = n ∧ (∀ y ∈ x, 0 ≤ y ∧ y ≤ (n : Int) - 1) ∧ x.Nodup := by
  unfold rowE at h
  by_cases h1 : x.length ≠ n
  · rw [if_pos h1] at h; cases h
  rw [if_neg h1] at h
  by_cases h2 : (x.all fun y => inB y 0 ((n : Int) - 1)) = false
  · rw [if_pos h2] at h; cases h
  rw [if_neg h2] at h
  by_cases h3 : x.Nodup
  · refine ⟨by omega, fun y hy => ?_, h3⟩
    have := List.all_eq_true.1 (by simpa using h2) y hy
    simpa [inB] using this
  · rw [if_neg h3] at h; cases h
theorem side_prefs {n : Nat} {L : List (List Int)} (hl : L.length = n) (h : firstE (rowE n) L = 0) : Prefs n (toN L) ∧ ∀ x ∈ L, ∀ y ∈ x, 0 ≤ y := by
  have hz := firstE_zero h
  refine ⟨⟨by simp [toN, hl], fun x hx => ?_⟩, fun x hx y hy => ((rowE_zero (hz x hx)).2.1 y hy).1⟩
  obtain ⟨y, hy, rfl⟩ := List.mem_map.1 hx
  obtain ⟨h1, h2, h3⟩ := rowE_zero (hz y hy)
  refine ⟨by simp [h1], ?_, fun z hz => ?_⟩
  · rw [List.Nodup, List.pairwise_map]
    refine h3.imp_of_mem fun {a b} ha hb hne e => ?_
    have := (h2 a ha).1
    have := (h2 b hb).1
    exact hne (by omega)
  · obtain ⟨w, hw, rfl⟩ := List.mem_map.1 hz
    have := h2 w hw
    omega
structure StOk (L R : List (List Int)) (n : Nat) (A B : List (List Nat)) : Prop where
  hi : n ≤ 6
  lenL : L.length = n
  lenR : R.length = n
  dL : L.map liD = A.map lnR
  dR : R.map liD = B.map lnR
  pL : Prefs n A
  pR : Prefs n B
theorem st_ok {L R : List (List Int)} (h : stE L R = 0) : StOk L R L.length (toN L) (toN R) := by
  unfold stE at h
  by_cases h1 : 6 < L.length ∨ 6 < R.length
  · rw [if_pos h1] at h; cases h
  rw [if_neg h1] at h
  by_cases h2 : L.length ≠ R.length
  · rw [if_pos h2] at h; cases h
  rw [if_neg h2] at h
  by_cases h3 : firstE (rowE L.length) L = 0
  · rw [if_pos h3] at h
    obtain ⟨g1, g2⟩ := side_prefs rfl h3
    obtain ⟨g3, g4⟩ := side_prefs (by omega) h
    exact ⟨by omega, rfl, by omega, liDs_nat g2, liDs_nat g4, g1, g3⟩
  · rw [if_neg h3] at h; exact absurd h h3
theorem place_nat (l : List Nat) (n : Nat) : place (l.map Int.ofNat) (n : Int) = if n ∈ l then ((l.idxOf n : Nat) : Int) else -1 := by
  unfold place
  have hm : ((n : Int) ∈ l.map Int.ofNat) ↔ n ∈ l := by
    rw [List.mem_map]
    exact ⟨fun ⟨x, hx, e⟩ => (Int.ofNat.inj e) ▸ hx, fun h => ⟨n, h, rfl⟩⟩
  by_cases h : n ∈ l
  · rw [if_pos (hm.2 h), if_pos h]
    congr 1
    clear hm h
    induction l with
    | nil => rfl
    | cons x l ih =>
      rw [List.map_cons, List.idxOf_cons, List.idxOf_cons]
      by_cases e : x = n
      · subst e; simp
      · have e2 : ¬ (Int.ofNat x = (n : Int)) := fun h => e (Int.ofNat.inj h)
        have : (x == n) = false := by simpa using e
        have h2 : (Int.ofNat x == (n : Int)) = false := by simpa using e2
        rw [this, h2]
        simp (implicitDefEqProofs := false) (dsimp := false) only [cond_false]
        rw [ih]
  · rw [if_neg (fun h' => h (hm.1 h')), if_neg h]
theorem indexN_spec (l : List Nat) (n : Nat) (hpre : l.length < 2 ^ 62 ∧ n ∈ l) : FnD Tryd.prog 101 [.l (l.map nD), I .i64 (n : Int)] (I .i64 (l.idxOf n : Nat)) := by
  have h := index_spec (l.map Int.ofNat) n (by simpa using hpre.1)
  rw [place_nat, if_pos hpre.2, ← nDI] at h
  exact h
theorem indexN_call (l : List Nat) (n : Nat) (pure : Bool) (σ : St) (dst : Option Tmp) (K : St → Prop) : CallH Tryd.prog 101 [.l (l.map nD), I .i64 (n : Int)] pure σ dst (.mk : Hid K) = OrH ((l.length < 2 ^ 62 ∧ n ∈ l) ∧ (pure || D.flat (I .i64 (l.idxOf n : Nat))) = true ∧ evK (σ.put dst (.d (I .i64 (l.idxOf n : Nat)))) (.mk : Hid K)) (.mk : Hid (CallH Tryd.prog 101 [.l (l.map nD), I .i64 (n : Int)] pure σ dst (.mk : Hid K))) := CallH.eq (indexN_spec l n) pure σ dst K
theorem indexN_callQ (l : List Nat) (n : Nat) (pure : Bool) (C : V → Prop) : CallQ Tryd.prog 101 [.l (l.map nD), I .i64 (n : Int)] pure (.mk : Hid C) = OrH ((l.length < 2 ^ 62 ∧ n ∈ l) ∧ (pure || D.flat (I .i64 (l.idxOf n : Nat))) = true ∧ evK (V.d (I .i64 (l.idxOf n : Nat))) (.mk : Hid C)) (.mk : Hid (CallQ Tryd.prog 101 [.l (l.map nD), I .i64 (n : Int)] pure (.mk : Hid C))) := CallQ.eq (indexN_spec l n) pure C
def isE (L R : List (List Int)) (h : List Int) : Int := if stE L R = 0 then rowE L.length h else stE L R
def stbI (A B : List (List Nat)) (H : List Nat) (i : Nat) : Bool := ((A.getD i default).take ((A.getD i default).idxOf (H.getD i default))).all fun b => !decide ((B.getD b default).idxOf i < (B.getD b default).idxOf (H.idxOf b))
def stbL (A B : List (List Nat)) (H : List Nat) : Bool := (List.range H.length).all (stbI A B H)
def isB (L R : List (List Int)) (h : List Int) : Bool := if isE L R h = 0 then stbL (toN L) (toN R) (h.map Int.toNat) else false
theorem isB_not {L R : List (List Int)} {h : List Int} (e : isE L R h ≠ 0) : isB L R h = false := if_neg e
theorem sis_spec (L R : List (List Int)) (h : List Int) (hpre : ((L.length < 2 ^ 62 ∧ ∀ x ∈ L, x.length < 2 ^ 62) ∧ R.length < 2 ^ 62 ∧ ∀ x ∈ R, x.length < 2 ^ 62) ∧ h.length < 2 ^ 62) : FnD Tryd.prog 64 [.l (L.map liD), .l (R.map liD), .l (h.map (I .i64))] (.t [Bo (isB L R h), erD (isE L R h)]) := by
  obtain ⟨hLR, hh⟩ := hpre
  refine FnD.go Tryd.func64 rfl rfl Tryd.results64 Tryd.ntmps64 ?_
  simp (implicitDefEqProofs := false) (dsimp := false) only [↓aw_seq, ↓aw_reg, ↓Qseq_n, ↓ops_nil, ↓ops_cons, ↓eval_tmp, ↓eval_bool, ↓eval_func, ↓put_some, ↓op_move, ↓op_assign, ↓op_call, isD_d, ↓fnK_f, ↓call_H, ↓callK_H, ↓allT_nil, ↓allT_cons, ↓td_d, List.getD_cons_zero, List.getD_cons_succ, List.set_cons_zero, List.set_cons_succ, List.cons_append, List.nil_append, List.append_nil, List.map_cons, List.map_nil, List.length_cons, List.length_nil, List.all_cons, List.all_nil, Bool.and_self, Nat.reduceAdd, Nat.reduceSub, Nat.reduceMul, Nat.zero_add, List.replicate, evK_go, reduceIte, Nat.reduceEqDiff, Nat.reduceLT, and_self, Int.zero_add]
  simp (implicitDefEqProofs := false) (dsimp := false) only [scheck_call, hLR, eval_nilI, ↓er_neq, er_flat, ↓cdK_not, ↓aw_cond, ↓aw_seq, ↓aw_reg, ↓Qseq_n, ↓ops_nil, ↓ops_cons, ↓eval_tmp, ↓put_some, ↓bK_b, ↓op_move, ↓op_assign, ↓op_bin, List.getD_cons_zero, List.getD_cons_succ, List.set_cons_zero, List.set_cons_succ, Bool.true_and, Bool.or_true, Nat.reduceAdd, Nat.reduceSub, Nat.reduceMul, evK_go, reduceIte, Nat.reduceEqDiff, Nat.reduceLT, true_and]
  refine OrH.l (OrH.l ⟨⟨hLR.1.2, hLR.2.2⟩, ?_⟩)
  refine cdK_dec (fun hc => ?_) (fun hc => ?_)
  rotate_left
  · have e : isE L R h = stE L R := if_neg hc
    simp (implicitDefEqProofs := false) (dsimp := false) only [isB_not (e ▸ hc), e, ↓aw_seq, ↓aw_ret, ↓aw_reg, ↓Qseq_n, ↓Qseq_r, ↓Qret_r, ↓ops_nil, ↓ops_cons, ↓eval_tmp, ↓eval_bool, ↓put_some, ↓op_move, ↓op_assign, ↓td_d, ↓ret_2, List.getD_cons_zero, List.getD_cons_succ, List.set_cons_zero, List.set_cons_succ, Nat.reduceAdd, Nat.reduceSub, Nat.reduceMul, evK_go, reduceIte, Nat.reduceEqDiff, Nat.reduceLT]
  have e1 : isE L R h = rowE L.length h := if_pos hc
  have ok := st_ok hc
  rw [ok.dL, ok.dR, hc]
  have hA := ok.pL
  have hB := ok.pR
  have hn6 := ok.hi
  have hAl := hA.len
  have hBl := hB.len
  have hib : isE L R h = 0 → isB L R h = stbL (toN L) (toN R) (h.map Int.toNat) := fun e => if_pos e
  have hnb : isE L R h ≠ 0 → isB L R h = false := fun e => isB_not e
  clear ok hLR
  generalize toN L = A at *
  generalize toN R = B at *
  generalize L.length = n at *
  generalize isB L R h = b at *
  generalize isE L R h = e at *
  simp (implicitDefEqProofs := false) (dsimp := false) only [hAl, ↓cdK_not, ↓aw_cond, ↓aw_seq, ↓aw_skip, ↓aw_reg, ↓Qseq_n, ↓ops_nil, ↓ops_cons, ↓eval_tmp, ↓put_some, ↓bK_b, ↓lenK_l, ↓binE_i, ↓bi_neq, ↓op_move, ↓op_bin, ↓op_len, ↓sl24, ↓sl69, List.getD_cons_zero, List.getD_cons_succ, List.set_cons_zero, List.set_cons_succ, List.length_map, Nat.reduceAdd, Nat.reduceSub, Nat.reduceMul, evK_go, reduceIte, decide_true, Bool.not_true, Nat.reduceEqDiff, Nat.reduceLT, Int.natCast_inj]
  refine cdK_dec (fun h1 => ?_) (fun h1 => ?_)
  rotate_left
  · have hr : rowE n h = 3 := by unfold rowE; rw [if_pos (by omega)]
    rw [hr] at e1
    rw [hnb (by rw [e1]; decide), e1]
    simp (implicitDefEqProofs := false) (dsimp := false) only [nc108, ↓aw_seq, ↓aw_ret, ↓aw_reg, ↓Qseq_n, ↓Qseq_r, ↓Qret_r, ↓ops_nil, ↓ops_cons, ↓eval_tmp, ↓eval_int, ↓eval_bool, ↓put_some, ↓vK_c, ↓op_assign, ↓op_iface, ↓td_d, ↓ret_2, ↓nc108, List.getD_cons_zero, List.getD_cons_succ, List.set_cons_zero, List.set_cons_succ, Bool.true_and, Nat.reduceAdd, Nat.reduceSub, Nat.reduceMul, evK_go, reduceIte, Nat.reduceEqDiff, Nat.reduceLT, true_and]
    rfl
  have h1' : h.length = n := by omega
  simp (implicitDefEqProofs := false) (dsimp := false) only [all_call, hh, hAl, ↓cdK_not, ↓aw_cond, ↓aw_seq, ↓aw_skip, ↓aw_reg, ↓Qseq_n, ↓ops_nil, ↓ops_cons, ↓eval_tmp, ↓eval_int, ↓eval_func, ↓put_some, ↓bK_b, ↓lenK_l, ↓binE_i, ↓bi_sub, ↓in_i64, ↓op_move, ↓op_bin, ↓op_not, ↓op_len, ↓op_call, isD_d, ↓fnK_f, ↓call_H, ↓callK_H, ↓allT_nil, ↓allT_cons, ↓td_d, ↓sl69, List.getD_cons_zero, List.getD_cons_succ, List.set_cons_zero, List.set_cons_succ, List.append_nil, List.length_map, List.all_cons, List.all_nil, Bool.true_and, Bool.and_self, Bool.true_or, Nat.reduceAdd, Nat.reduceSub, Nat.reduceMul, evK_go, reduceIte, Nat.reduceEqDiff, Nat.reduceLT, and_self, true_and]
  refine ⟨by omega, ?_⟩
  (repeat refine OrH.l ?_)
  refine cdK_split (fun h7 => ?_) (fun h7 => ?_)
  rotate_left
  · have hr : rowE n h = 1 := by unfold rowE; rw [if_neg (by omega), if_pos h7]
    rw [hr] at e1
    rw [hnb (by rw [e1]; decide), e1]
    simp (implicitDefEqProofs := false) (dsimp := false) only [nc108, ↓aw_seq, ↓aw_ret, ↓aw_reg, ↓Qseq_n, ↓Qseq_r, ↓Qret_r, ↓ops_nil, ↓ops_cons, ↓eval_tmp, ↓eval_int, ↓eval_bool, ↓put_some, ↓vK_c, ↓op_assign, ↓op_iface, ↓td_d, ↓ret_2, ↓nc108, List.getD_cons_zero, List.getD_cons_succ, List.set_cons_zero, List.set_cons_succ, Bool.true_and, Nat.reduceAdd, Nat.reduceSub, Nat.reduceMul, evK_go, reduceIte, Nat.reduceEqDiff, Nat.reduceLT, true_and]
    rfl
  have hpos : ∀ y ∈ h, 0 ≤ y ∧ y < (n : Int) := fun y hy => by
    have h3 : (decide (0 ≤ y) && decide (y ≤ (n : Int) - 1)) = true := List.all_eq_true.1 h7 y hy
    simp at h3; omega
  simp (implicitDefEqProofs := false) (dsimp := false) only [↓aw_seq, ↓aw_block, ↓aw_skip, ↓aw_loop, ↓aw_reg, ↓Qseq_n, ↓ops_nil, ↓ops_cons, ↓eval_tmp, ↓eval_int, ↓put_some, ↓lenK_l, ↓op_move, ↓op_len, ↓sl24, List.getD_cons_zero, List.getD_cons_succ, List.set_cons_zero, List.set_cons_succ, List.length_map, Nat.reduceAdd, Nat.reduceSub, Nat.reduceMul, evK_go, reduceIte, Nat.reduceEqDiff, Nat.reduceLT]
  refine loopW (fun p : Nat => { tm := slots 88 [(0, .d (.l (A.map lnR))), (1, .d (.l (B.map lnR))), (2, .d (.l (h.map (I .i64)))), (34, .d (.l (h.map (I .i64)))), (35, .d (I .i64 (n : Int))), (36, .d (I .i64 p))], bx := [], rw := [] })
    (fun p => p ≤ n ∧ (h.take p).Nodup) (fun p => n - p) 0 ⟨by simp, by simp⟩ ?_ ?_
  · refine Wkn.of [] [] ?_
    simp (implicitDefEqProofs := false) (dsimp := false) only [h1', List.set_cons_zero, List.set_cons_succ, Bool.and_self, Nat.reduceAdd, Nat.reduceSub, Nat.reduceMul, List.replicate, evK_go, reduceIte, decide_true, Bool.not_true, Nat.reduceEqDiff, Nat.reduceLT, and_self, List.foldl_cons, List.foldl_nil, Int.cast_ofNat_Int, slots, wkL_nil, wkL_cons, wkB_nil, wkR_nil, wkV_j, wkV_d, frz_d, reduceCtorEq]
  · rintro p ⟨hp, hnd⟩
    simp (implicitDefEqProofs := false) (dsimp := false) only [slots, ↓aw_cond, ↓aw_seq, ↓aw_reg, ↓Qseq_n, ↓ops_nil, ↓ops_cons, ↓eval_tmp, ↓put_some, ↓bK_b, ↓binE_i, ↓bi_lss, ↓op_bin, List.getD_cons_zero, List.getD_cons_succ, List.set_cons_zero, List.set_cons_succ, Nat.reduceAdd, Nat.reduceSub, Nat.reduceMul, List.replicate, evK_go, reduceIte, Nat.reduceEqDiff, Nat.reduceLT, List.foldl_cons, List.foldl_nil, Int.ofNat_lt]
    refine cdK_dec (fun h8 => ?_) (fun h8 => ?_)
    · have hpx : p < h.length := by omega
      have hp62 : (h.take p).length < 2 ^ 62 := by simp; omega
      simp (implicitDefEqProofs := false) (dsimp := false) only [hpx, ← List.map_take, contains_call, hp62, ↓atK_H, ↓atH_map, ↓aw_cond, ↓aw_seq, ↓aw_block, ↓aw_skip, ↓aw_reg, ↓Qseq_n, ↓ops_nil, ↓ops_cons, ↓eval_tmp, ↓eval_func, ↓put_some, ↓bK_b, ↓iK_i, ↓optI_none, ↓optI_some, ↓ldK_q, ↓iaK_l, ↓sliK_l, ↓op_move, ↓op_assign, ↓op_load, ↓op_ia, ↓op_slice, ↓op_call, isD_d, ↓fnK_f, ↓call_H, ↓callK_H, ↓allT_nil, ↓allT_cons, ↓td_d, ↓cells_c, ↓hd_cons, ↓ty3, ↓sl24, List.getD_cons_zero, List.getD_cons_succ, List.set_cons_zero, List.set_cons_succ, List.append_nil, List.length_cons, List.length_nil, List.length_map, List.all_cons, List.all_nil, Bool.true_and, Bool.and_self, Bool.true_or, Nat.reduceAdd, Nat.reduceSub, Nat.reduceMul, Nat.zero_add, Int.toNat_natCast, Int.toNat_zero, evK_go, reduceIte, Nat.reduceEqDiff, Nat.reduceLT, and_self, true_and, Option.getD_none, Option.getD_some, Int.zero_add, List.drop_zero, Int.ofNat_le, Int.natCast_nonneg]
      refine ⟨⟨by omega, by omega⟩, fun y hy => ?_, ?_⟩
      · obtain ⟨q, _, rfl⟩ := List.mem_map.1 hy
        rfl
      (repeat refine OrH.l ?_)
      refine cdK_dec (fun h9 => ?_) (fun h9 => ?_)
      · have hno : ¬ h.Nodup := fun hn => by
          have e := take_succ_getD hpx
          have h10 : (h.take (p + 1)).Nodup := hn.sublist (List.take_sublist _ _)
          rw [e] at h10
          exact (List.nodup_append.1 h10).2.2 _ h9 _ (by simp) rfl
        have hr : rowE n h = 6 := by unfold rowE; rw [if_neg (by omega), if_neg (by rw [h7]; decide), if_neg hno]
        rw [hr] at e1
        rw [hnb (by rw [e1]; decide), e1]
        simp (implicitDefEqProofs := false) (dsimp := false) only [nc108, ↓aw_seq, ↓aw_ret, ↓aw_reg, ↓Qseq_n, ↓Qseq_r, ↓Qblk_r, ↓Qret_r, ↓ops_nil, ↓ops_cons, ↓eval_tmp, ↓eval_int, ↓eval_bool, ↓put_some, ↓vK_c, ↓op_assign, ↓op_iface, ↓td_d, ↓ret_2, ↓nc108, List.getD_cons_zero, List.getD_cons_succ, List.set_cons_zero, List.set_cons_succ, Bool.true_and, Nat.reduceAdd, Nat.reduceSub, Nat.reduceMul, evK_go, reduceIte, Nat.reduceEqDiff, Nat.reduceLT, true_and]
        rfl
      · simp (implicitDefEqProofs := false) (dsimp := false) only [↓aw_skip, ↓aw_reg, ↓Qseq_n, ↓Qblk_n, ↓ops_nil, ↓ops_cons, ↓eval_tmp, ↓eval_int, ↓put_some, ↓binE_i, ↓bi_add, ↓in_i64, ↓op_move, ↓op_bin, List.getD_cons_zero, List.getD_cons_succ, List.set_cons_zero, List.set_cons_succ, Nat.reduceAdd, Nat.reduceSub, Nat.reduceMul, evK_go, reduceIte, Nat.reduceEqDiff, Nat.reduceLT]
        refine ⟨by omega, p + 1, ⟨by omega, ?_⟩, by omega, ?_⟩
        · rw [take_succ_getD hpx]
          refine List.nodup_append.2 ⟨hnd, by simp, fun a ha b hb e => ?_⟩
          rw [List.mem_singleton.1 hb] at e
          exact h9 (e ▸ ha)
        · refine Wkn.of [] [] ?_; simp (implicitDefEqProofs := false) (dsimp := false) only [List.set_cons_zero, List.set_cons_succ, Bool.and_self, Nat.reduceAdd, Nat.reduceSub, Nat.reduceMul, List.replicate, evK_go, reduceIte, Nat.reduceEqDiff, Nat.reduceLT, and_self, List.foldl_cons, List.foldl_nil, Int.cast_ofNat_Int, Int.natCast_add, slots, wkL_nil, wkL_cons, wkB_nil, wkR_nil, wkV_j, wkV_d, frz_d, reduceCtorEq]
    · obtain rfl : p = n := by omega
      rw [List.take_of_length_le (by omega)] at hnd
      have hr : rowE p h = 0 := by unfold rowE; rw [if_neg (by omega), if_neg (by rw [h7]; decide), if_pos hnd]
      rw [hr] at e1
      rw [hib e1, e1]
      have hHd : h.map (I .i64) = (h.map Int.toNat).map nD := by rw [nDI, toNat_back fun y hy => (hpos y hy).1]
      have hHl : (h.map Int.toNat).length = p := by simp [h1']
      have hHn : (h.map Int.toNat).Nodup := by
        rw [List.Nodup, List.pairwise_map]
        refine hnd.imp_of_mem fun {a b} ha hb hne e => ?_
        have := (hpos a ha).1
        have := (hpos b hb).1
        exact hne (by omega)
      have hHx : ∀ y ∈ h.map Int.toNat, y < p := fun y hy => by
        obtain ⟨z, hz, rfl⟩ := List.mem_map.1 hy
        have := hpos z hz
        omega
      rw [hHd]
      clear hHd hpos h7
      generalize h.map Int.toNat = H at *
      have hHm : ∀ j, j < p → j ∈ H := fun j hj => by
        have hP : Prefs p (List.replicate p H) := ⟨by simp, fun x hx => by rw [List.eq_of_mem_replicate hx]; exact ⟨hHl, hHn, hHx⟩⟩
        have hm := hP.mem hj hj
        rwa [List.getD_eq_getElem?_getD, List.getElem?_replicate, if_pos hj] at hm
      simp (implicitDefEqProofs := false) (dsimp := false) only [↓aw_seq, ↓aw_block, ↓aw_exit, ↓aw_loop, ↓aw_reg, ↓Qseq_n, ↓Qseq_x, ↓Qblk_x, ↓ops_nil, ↓ops_cons, ↓eval_tmp, ↓eval_int, ↓put_some, ↓lenK_l, ↓op_move, ↓op_len, ↓sl24, List.getD_cons_zero, List.getD_cons_succ, List.set_cons_zero, List.set_cons_succ, List.length_map, Nat.reduceAdd, Nat.reduceSub, Nat.reduceMul, evK_go, reduceIte, decide_false, Nat.reduceEqDiff, Nat.reduceLT, Nat.lt_irrefl]
      refine loopW (fun i : Nat => { tm := slots 88 [(0, .d (.l (A.map lnR))), (1, .d (.l (B.map lnR))), (2, .d (.l (H.map nD))), (48, .d (.l (H.map nD))), (49, .d (I .i64 (p : Int))), (50, .d (I .i64 i))], bx := [], rw := [] })
        (fun i => i ≤ p ∧ (List.range i).all (stbI A B H) = true) (fun i => p - i) 0 ⟨by simp, by simp⟩ ?_ ?_
      · refine Wkn.of [] [] ?_
        simp (implicitDefEqProofs := false) (dsimp := false) only [hHl, List.set_cons_zero, List.set_cons_succ, Bool.and_self, Nat.reduceAdd, Nat.reduceSub, Nat.reduceMul, List.replicate, evK_go, reduceIte, Nat.reduceEqDiff, Nat.reduceLT, and_self, List.foldl_cons, List.foldl_nil, Int.cast_ofNat_Int, slots, wkL_nil, wkL_cons, wkB_nil, wkR_nil, wkV_j, wkV_d, frz_d, reduceCtorEq]
      · rintro i ⟨hi, hall⟩
        simp (implicitDefEqProofs := false) (dsimp := false) only [slots, ↓aw_cond, ↓aw_seq, ↓aw_reg, ↓Qseq_n, ↓ops_nil, ↓ops_cons, ↓eval_tmp, ↓put_some, ↓bK_b, ↓binE_i, ↓bi_lss, ↓op_bin, List.getD_cons_zero, List.getD_cons_succ, List.set_cons_zero, List.set_cons_succ, Nat.reduceAdd, Nat.reduceSub, Nat.reduceMul, List.replicate, evK_go, reduceIte, Nat.reduceEqDiff, Nat.reduceLT, List.foldl_cons, List.foldl_nil, Int.ofNat_lt]
        refine cdK_dec (fun h8 => ?_) (fun h8 => ?_)
        · have hiH : i < H.length := by omega
          have hiA : i < A.length := by omega
          have hji := hHx _ (getD_mem hiH)
          obtain ⟨hx1, hx2, hx3⟩ := hA.row h8
          have hxm := hA.mem h8 hji
          have hxi := hA.rk_lt h8 hji
          have hstI : stbI A B H i = ((A.getD i default).take ((A.getD i default).idxOf (H.getD i default))).all fun b => !decide ((B.getD b default).idxOf i < (B.getD b default).idxOf (H.idxOf b)) := rfl
          unfold rk at hxi
          have hxx : (A.getD i default).length < 2 ^ 62 := by omega
          generalize hxd : A.getD i default = x at hx1 hx2 hx3 hxm hxi hxx hstI
          generalize hjd : H.getD i default = j at hji hxm hxi hstI
          simp (implicitDefEqProofs := false) (dsimp := false) only [hiH, hiA, hxd, hjd, lnR, nD, indexN_callQ, hxm, hxx, ↓atK_H, ↓atH_map, ↓aw_seq, ↓aw_block, ↓aw_skip, ↓aw_loop, ↓aw_reg, ↓aw_draw, ↓Qseq_n, ↓ops_nil, ↓ops_cons, ↓eval_tmp, ↓eval_int, ↓eval_func, ↓put_some, ↓iK_i, ↓lenK_l, ↓ev_move, ↓ev_load, ↓ev_ia, ↓ev_slice, ↓optI_none, ↓optI_some, ↓ev_len, ↓ldK_q, ↓iaK_l, ↓sliK_l, ↓op_move, ↓op_assign, ↓op_load, ↓op_ia, isD_d, ↓fnK_f, ↓callKQ_H, ↓allT_nil, ↓allT_cons, ↓td_d, ↓draw_H, ↓h_nil, ↓h_cons, ↓ldH_n, ↓q_call, ↓q_bi, ↓q_move, ↓q_load, ↓q_ia, ↓q_slice, ↓il_move, ↓il_load, ↓il_ia, ↓il_slice, ↓il_call, ↓il_len, ↓cells_c, ↓cells_l, ↓hd_cons, ↓ty3, ↓ty24, ↓sl24, ↓sl69, List.getD_cons_zero, List.getD_cons_succ, List.set_cons_zero, List.set_cons_succ, List.append_nil, List.length_cons, List.length_nil, List.length_map, List.all_cons, List.all_nil, Bool.true_and, Bool.and_self, Bool.true_or, Nat.reduceAdd, Nat.reduceSub, Nat.reduceMul, Nat.zero_add, Int.toNat_natCast, Int.toNat_zero, evK_go, reduceIte, Nat.reduceEqDiff, Nat.reduceLT, and_self, true_and, Option.getD_none, Option.getD_some, Int.zero_add, List.drop_zero, Int.ofNat_le, Int.natCast_nonneg]
          refine OrH.l ⟨DrawH.of follows_mixed (by kernel_rfl), OrH.l (OrH.l ⟨⟨by omega, by omega⟩, fun y hy => ?_, ?_⟩)⟩
          · obtain ⟨q, _, rfl⟩ := List.mem_map.1 hy
            rfl
          have hTl : (x.take (x.idxOf j)).length = x.idxOf j := by rw [List.length_take]; omega
          have hTm : ∀ y ∈ x.take (x.idxOf j), y < p := fun y hy => hx3 y (List.mem_of_mem_take hy)
          rw [← List.map_take]
          generalize x.take (x.idxOf j) = T at hTl hTm hstI ⊢
          generalize x.idxOf j = z at hTl hxi ⊢
          refine loopW (fun t : Nat => { tm := slots 88 [(0, .d (.l (A.map lnR))), (1, .d (.l (B.map lnR))), (2, .d (.l (H.map nD))), (11, .d (I .i64 i)), (48, .d (.l (H.map nD))), (49, .d (I .i64 (p : Int))), (50, .d (I .i64 i)), (65, .d (.l (T.map nD))), (66, .d (I .i64 (z : Int))), (67, .d (I .i64 t))], bx := [], rw := [] })
            (fun t => t ≤ z ∧ (T.take t).all (fun b => !decide ((B.getD b default).idxOf i < (B.getD b default).idxOf (H.idxOf b))) = true) (fun t => z - t) 0 ⟨by simp, by simp⟩ ?_ ?_
          · refine Wkn.of [] [] ?_
            simp (implicitDefEqProofs := false) (dsimp := false) only [hTl, List.set_cons_zero, List.set_cons_succ, List.length_map, Bool.and_self, Nat.reduceAdd, Nat.reduceSub, Nat.reduceMul, List.replicate, evK_go, reduceIte, Nat.reduceEqDiff, Nat.reduceLT, and_self, List.foldl_cons, List.foldl_nil, Int.cast_ofNat_Int, slots, wkL_nil, wkL_cons, wkB_nil, wkR_nil, wkV_j, wkV_d, frz_d, reduceCtorEq]
          · rintro t ⟨ht, hta⟩
            simp (implicitDefEqProofs := false) (dsimp := false) only [slots, ↓aw_cond, ↓aw_seq, ↓aw_reg, ↓Qseq_n, ↓ops_nil, ↓ops_cons, ↓eval_tmp, ↓put_some, ↓bK_b, ↓binE_i, ↓bi_lss, ↓op_bin, List.getD_cons_zero, List.getD_cons_succ, List.set_cons_zero, List.set_cons_succ, Nat.reduceAdd, Nat.reduceSub, Nat.reduceMul, List.replicate, evK_go, reduceIte, Nat.reduceEqDiff, Nat.reduceLT, List.foldl_cons, List.foldl_nil, Int.ofNat_lt]
            refine cdK_dec (fun h9 => ?_) (fun h9 => ?_)
            · have htT : t < T.length := by omega
              have hcb := hTm _ (getD_mem htT)
              have hts := take_succ_getD htT
              generalize hcd : T.getD t default = c at hcb hts
              have hcB : c < B.length := by omega
              have hcH := hHm c hcb
              have hk : H.idxOf c < p := by have := List.idxOf_lt_length_of_mem hcH; omega
              have hiB := hB.mem hcb h8
              have hkB := hB.mem hcb hk
              have hH62 : H.length < 2 ^ 62 := by omega
              have hB62 : (B.getD c default).length < 2 ^ 62 := by rw [(hB.row hcb).1]; omega
              simp (implicitDefEqProofs := false) (dsimp := false) only [htT, hcd, hcB, lnR, nD, indexN_callQ, hiB, hkB, hcH, hH62, hB62, ↓atK_H, ↓atH_map, ↓aw_cond, ↓aw_seq, ↓aw_block, ↓aw_skip, ↓aw_reg, ↓aw_draw, ↓Qseq_n, ↓ops_nil, ↓ops_cons, ↓eval_tmp, ↓eval_func, ↓put_some, ↓bK_b, ↓iK_i, ↓ev_move, ↓ev_load, ↓ev_bin, ↓ev_ia, ↓binE_i, ↓bi_lss, ↓ldK_q, ↓iaK_l, ↓op_assign, ↓op_load, ↓op_ia, isD_d, ↓fnK_f, ↓callKQ_H, ↓allT_nil, ↓allT_cons, ↓td_d, ↓draw_H, ↓h_nil, ↓h_cons, ↓ldH_n, ↓q_call, ↓q_move, ↓q_load, ↓q_bin, ↓q_ia, ↓il_move, ↓il_load, ↓il_bin, ↓il_ia, ↓il_call, ↓cells_c, ↓cells_l, ↓hd_cons, ↓ty3, ↓ty24, ↓sl24, ↓sl69, List.getD_cons_zero, List.getD_cons_succ, List.set_cons_zero, List.set_cons_succ, List.append_nil, List.length_cons, List.length_nil, List.all_cons, List.all_nil, Bool.true_and, Bool.and_self, Bool.true_or, Nat.reduceAdd, Nat.reduceSub, Nat.reduceMul, Nat.zero_add, Int.toNat_natCast, evK_go, reduceIte, Nat.reduceEqDiff, Nat.reduceLT, and_self, true_and, Int.zero_add, Int.ofNat_lt, Int.natCast_nonneg]
              refine OrH.l ⟨DrawH.of follows_mixed (by kernel_rfl), ?_⟩
              (repeat refine OrH.l ?_)
              refine cdK_dec (fun h10 => ?_) (fun h10 => ?_)
              · have hs : stbL A B H = false := by
                  rw [← Bool.not_eq_true]
                  intro hq
                  have h11 := List.all_eq_true.1 hq i (by simp; omega)
                  rw [hstI] at h11
                  have h12 := List.all_eq_true.1 h11 c (hcd ▸ getD_mem htT)
                  rw [decide_eq_true (by omega)] at h12
                  cases h12
                simp (implicitDefEqProofs := false) (dsimp := false) only [hs, eval_nilI, ↓aw_seq, ↓aw_ret, ↓aw_reg, ↓Qseq_n, ↓Qseq_r, ↓Qblk_r, ↓Qret_r, ↓ops_nil, ↓ops_cons, ↓eval_tmp, ↓eval_bool, ↓put_some, ↓op_assign, ↓td_d, ↓ret_2, List.getD_cons_zero, List.getD_cons_succ, List.set_cons_zero, List.set_cons_succ, Nat.reduceAdd, Nat.reduceSub, Nat.reduceMul, evK_go, reduceIte, Nat.reduceEqDiff, Nat.reduceLT]
                rfl
              · simp (implicitDefEqProofs := false) (dsimp := false) only [↓aw_skip, ↓aw_reg, ↓Qseq_n, ↓Qblk_n, ↓ops_nil, ↓ops_cons, ↓eval_tmp, ↓eval_int, ↓put_some, ↓binE_i, ↓bi_add, ↓in_i64, ↓op_move, ↓op_bin, List.getD_cons_zero, List.getD_cons_succ, List.set_cons_zero, List.set_cons_succ, Nat.reduceAdd, Nat.reduceSub, Nat.reduceMul, evK_go, reduceIte, Nat.reduceEqDiff, Nat.reduceLT]
                refine ⟨by omega, t + 1, ⟨by omega, ?_⟩, by omega, ?_⟩
                · rw [hts, List.all_append, hta, List.all_cons, List.all_nil, Bool.and_true, Bool.true_and, decide_eq_false (by omega)]
                  rfl
                · refine Wkn.of [] [] ?_; simp (implicitDefEqProofs := false) (dsimp := false) only [List.set_cons_zero, List.set_cons_succ, Bool.and_self, Nat.reduceAdd, Nat.reduceSub, Nat.reduceMul, List.replicate, evK_go, reduceIte, Nat.reduceEqDiff, Nat.reduceLT, and_self, List.foldl_cons, List.foldl_nil, Int.cast_ofNat_Int, Int.natCast_add, slots, wkL_nil, wkL_cons, wkB_nil, wkR_nil, wkV_j, wkV_d, frz_d, reduceCtorEq]
            · obtain rfl : t = z := by omega
              rw [List.take_of_length_le (by omega)] at hta
              simp (implicitDefEqProofs := false) (dsimp := false) only [eval_nilI, ↓aw_seq, ↓aw_exit, ↓aw_ret, ↓aw_reg, ↓Qseq_n, ↓Qseq_x, ↓Qblk_n, ↓Qblk_x, ↓Qret_r, ↓ops_nil, ↓ops_cons, ↓eval_tmp, ↓eval_int, ↓eval_bool, ↓put_some, ↓binE_i, ↓bi_add, ↓in_i64, ↓op_move, ↓op_assign, ↓op_bin, ↓td_d, ↓ret_2, List.getD_cons_zero, List.getD_cons_succ, List.set_cons_zero, List.set_cons_succ, Nat.reduceAdd, Nat.reduceSub, Nat.reduceMul, evK_go, reduceIte, decide_false, Nat.reduceEqDiff, Nat.reduceLT, Nat.lt_irrefl]
              refine ⟨by omega, i + 1, ⟨by omega, ?_⟩, by omega, ?_⟩
              · rw [List.range_succ, List.all_append, hall, List.all_cons, List.all_nil, Bool.and_true, Bool.true_and, hstI]
                exact hta
              · refine Wkn.of [] [] ?_; simp (implicitDefEqProofs := false) (dsimp := false) only [List.set_cons_zero, List.set_cons_succ, Bool.and_self, Nat.reduceAdd, Nat.reduceSub, Nat.reduceMul, List.replicate, evK_go, reduceIte, Nat.reduceEqDiff, Nat.reduceLT, and_self, List.foldl_cons, List.foldl_nil, Int.cast_ofNat_Int, Int.natCast_add, slots, wkL_nil, wkL_cons, wkB_nil, wkR_nil, wkV_j, wkV_d, frz_d, reduceCtorEq]
        · obtain rfl : i = p := by omega
          have hs : stbL A B H = true := by unfold stbL; rw [hHl]; exact hall
          simp (implicitDefEqProofs := false) (dsimp := false) only [hs, eval_nilI, ↓aw_seq, ↓aw_exit, ↓aw_ret, ↓aw_reg, ↓Qseq_n, ↓Qseq_x, ↓Qblk_x, ↓Qret_r, ↓ops_nil, ↓ops_cons, ↓eval_tmp, ↓eval_bool, ↓put_some, ↓op_assign, ↓td_d, ↓ret_2, List.getD_cons_zero, List.getD_cons_succ, List.set_cons_zero, List.set_cons_succ, Nat.reduceAdd, Nat.reduceSub, Nat.reduceMul, evK_go, reduceIte, decide_false, Nat.reduceEqDiff, Nat.reduceLT, Nat.lt_irrefl]
          rfl
theorem sis_call (L R : List (List Int)) (h : List Int) (pure : Bool) (σ : St) (dst : Option Tmp) (K : St → Prop) : CallH Tryd.prog 64 [.l (L.map liD), .l (R.map liD), .l (h.map (I .i64))] pure σ dst (.mk : Hid K) = OrH ((((L.length < 2 ^ 62 ∧ ∀ x ∈ L, x.length < 2 ^ 62) ∧ R.length < 2 ^ 62 ∧ ∀ x ∈ R, x.length < 2 ^ 62) ∧ h.length < 2 ^ 62) ∧ (pure || D.flat (.t [Bo (isB L R h), erD (isE L R h)])) = true ∧ evK (σ.put dst (.d (.t [Bo (isB L R h), erD (isE L R h)]))) (.mk : Hid K)) (.mk : Hid (CallH Tryd.prog 64 [.l (L.map liD), .l (R.map liD), .l (h.map (I .i64))] pure σ dst (.mk : Hid K))) := CallH.eq (sis_spec L R h) pure σ dst K
theorem sis_callQ (L R : List (List Int)) (h : List Int) (pure : Bool) (C : V → Prop) : CallQ Tryd.prog 64 [.l (L.map liD), .l (R.map liD), .l (h.map (I .i64))] pure (.mk : Hid C) = OrH ((((L.length < 2 ^ 62 ∧ ∀ x ∈ L, x.length < 2 ^ 62) ∧ R.length < 2 ^ 62 ∧ ∀ x ∈ R, x.length < 2 ^ 62) ∧ h.length < 2 ^ 62) ∧ (pure || D.flat (.t [Bo (isB L R h), erD (isE L R h)])) = true ∧ evK (V.d (.t [Bo (isB L R h), erD (isE L R h)])) (.mk : Hid C)) (.mk : Hid (CallQ Tryd.prog 64 [.l (L.map liD), .l (R.map liD), .l (h.map (I .i64))] pure (.mk : Hid C))) := CallQ.eq (sis_spec L R h) pure C
end Go.Proofs

namespace Go.Proofs
open Go.Aw
set_option linter.unusedSimpArgs false
set_option maxRecDepth 10000
def solveO (n : Int) (l : List OrT) : Option (List Bool) := solve n.toNat (clN l)
def solveE (n : Int) (l : List OrT) : Int := if ockE n l = 0 then (if (solveO n l).isSome then 0 else 5) else ockE n l
def solveR (n : Int) (l : List OrT) : List Bool := if ockE n l = 0 then (solveO n l).getD [] else []
theorem ock_ok {n : Int} {l : List OrT} (h : ockE n l = 0) : (1 ≤ n ∧ n ≤ 4) ∧ l.length ≤ 20 ∧ OrsIn n.toNat l := by
  unfold ockE at h
  split at h
  · cases h
  rename_i h1
  have hn : 1 ≤ n ∧ n ≤ 4 := by simpa [inB] using h1
  split at h
  · cases h
  rename_i h2
  refine ⟨hn, by omega, fun o ho => ?_⟩
  have := firstE_zero h o ho
  unfold orE at this
  split at this
  · cases this
  rename_i h3
  have h4 : 0 ≤ o.1.1 ∧ o.1.1 ≤ n - 1 ∧ 0 ≤ o.2.1 ∧ o.2.1 ≤ n - 1 := by simpa [inB] using h3
  omega
/-- The two turns of a name's round: the set, is it said, the answers. -/
def svP (k i : Nat) : Nat := if i = 0 then 2 * k + 1 else 2 * k
def sv (n : Nat) (L : List (Nat × Nat)) (k s : Nat) (o : List Bool) : Nat → Nat × Bool × List Bool
  | 0 => (s, false, o)
  | i + 1 => if (!(sv n L k s o i).2.1 && fitsB n ((sv n L k s o i).1 ||| rs (2 * n) L (svP k i))) = true then ((sv n L k s o i).1 ||| rs (2 * n) L (svP k i), true, (sv n L k s o i).2.2.set k (decide (i = 1))) else sv n L k s o i
theorem sv_two (n : Nat) (L : List (Nat × Nat)) (k s : Nat) (o : List Bool) : sv n L k s o 2 = match solveI n L k s with
    | none => (s, false, o)
    | some (s', b) => (s', true, o.set k b) := by
  unfold solveI
  have h1 : sv n L k s o 1 = if fitsB n (s ||| rs (2 * n) L (2 * k + 1)) = true then (s ||| rs (2 * n) L (2 * k + 1), true, o.set k false) else (s, false, o) := by
    simp [sv, svP]
  rw [sv, h1]
  by_cases f1 : fitsB n (s ||| rs (2 * n) L (2 * k + 1)) = true
  · simp [f1]
  · by_cases f2 : fitsB n (s ||| rs (2 * n) L (2 * k)) = true
    · simp [f1, f2, svP]
    · simp [f1, f2, svP]
theorem solveN_len {n : Nat} {L : List (Nat × Nat)} : ∀ {k s : Nat} {o : List Bool}, solveN n L k = some (s, o) → o.length = k := by
  intro k
  induction k with
  | zero => intro s o h; cases h; rfl
  | succ k ih =>
    intro s o h
    unfold solveN at h
    cases e : solveN n L k with
    | none => rw [e] at h; cases h
    | some so =>
      obtain ⟨s0, o0⟩ := so
      rw [e] at h
      simp only at h
      cases e2 : solveI n L k s0 with
      | none => rw [e2] at h; cases h
      | some sb => obtain ⟨s1, b⟩ := sb; rw [e2] at h; cases h; simp [ih e]
theorem solveN_up {n : Nat} {L : List (Nat × Nat)} {k : Nat} (h : solveN n L k = none) : ∀ m, k ≤ m → solveN n L m = none := by
  intro m hm
  induction m with
  | zero => obtain rfl : k = 0 := by omega
            exact h
  | succ m ih =>
    by_cases e : k = m + 1
    · subst e; exact h
    · unfold solveN; rw [ih (by omega)]
theorem sv_len (n : Nat) (L : List (Nat × Nat)) (k s : Nat) (o : List Bool) (i : Nat) : (sv n L k s o i).2.2.length = o.length := by
  induction i with
  | zero => rfl
  | succ i ih => rw [sv]; split <;> simp [ih]
theorem sv_lt {n : Nat} {L : List (Nat × Nat)} {k s : Nat} {o : List Bool} (hs : s < 2 ^ 64) (hr : ∀ p, p < 2 * n → rs (2 * n) L p < 2 ^ 64) (hk : k < n) : ∀ i, (sv n L k s o i).1 < 2 ^ 64 := by
  intro i
  induction i with
  | zero => exact hs
  | succ i ih =>
    rw [sv]
    split
    · exact Nat.or_lt_two_pow ih (hr _ (by unfold svP; split <;> omega))
    · exact ih
theorem psolve_spec (n : Int) (l : List OrT) (hpre : l.length < 2 ^ 62) : FnD Tryd.prog 36 [I .i64 n, .l (l.map orD)] (.t [.l ((solveR n l).map Bo), erD (solveE n l)]) := by
  refine FnD.go Tryd.func36 rfl rfl Tryd.results36 Tryd.ntmps36 ?_
  simp (implicitDefEqProofs := false) (dsimp := false) only [↓nthK_H, ↓nthH_zero, ↓aw_seq, ↓aw_reg, ↓Qseq_n, ↓ops_nil, ↓ops_cons, ↓eval_tmp, ↓eval_nil, ↓eval_func, ↓put_some, ↓ldK_p, ↓op_move, ↓op_assign, ↓op_load, ↓op_call, ↓op_box, isD_d, ↓fnK_f, ↓call_H, ↓callK_H, ↓allT_nil, ↓allT_cons, ↓td_d, ↓addBox_mk, ↓st_bx, ↓vcells_c, ↓one_i, ↓vone_d, ↓ty3, List.getD_cons_zero, List.getD_cons_succ, List.set_cons_zero, List.set_cons_succ, List.cons_append, List.nil_append, List.append_nil, List.map_cons, List.map_nil, List.length_cons, List.length_nil, List.all_cons, List.all_nil, Bool.true_and, Bool.and_self, Nat.reduceAdd, Nat.reduceSub, Nat.reduceMul, Nat.zero_add, List.replicate, evK_go, reduceIte, Nat.reduceEqDiff, Nat.reduceLT, and_self, true_and, Int.zero_add]
  simp (implicitDefEqProofs := false) (dsimp := false) only [ocheck_call, eval_nilI, ↓er_neq, er_flat, ↓cdK_not, ↓aw_cond, ↓aw_seq, ↓aw_reg, ↓Qseq_n, ↓ops_nil, ↓ops_cons, ↓eval_tmp, ↓put_some, ↓bK_b, ↓op_move, ↓op_assign, ↓op_bin, List.getD_cons_zero, List.getD_cons_succ, List.set_cons_zero, List.set_cons_succ, Bool.true_and, Bool.or_true, Nat.reduceAdd, Nat.reduceSub, Nat.reduceMul, evK_go, reduceIte, Nat.reduceEqDiff, Nat.reduceLT, true_and]
  refine OrH.l (OrH.l ⟨hpre, ?_⟩)
  refine cdK_dec (fun hc => ?_) (fun hc => ?_)
  rotate_left
  · have e1 : solveR n l = [] := if_neg hc
    have e2 : solveE n l = ockE n l := if_neg hc
    simp (implicitDefEqProofs := false) (dsimp := false) only [e1, e2, ↓aw_seq, ↓aw_ret, ↓aw_reg, ↓Qseq_n, ↓Qseq_r, ↓Qret_r, ↓ops_nil, ↓ops_cons, ↓eval_tmp, ↓eval_nil, ↓put_some, ↓op_move, ↓op_assign, ↓td_d, ↓td_nl, ↓ret_2, List.getD_cons_zero, List.getD_cons_succ, List.set_cons_zero, List.set_cons_succ, List.map_nil, Nat.reduceAdd, Nat.reduceSub, Nat.reduceMul, evK_go, reduceIte, Nat.reduceEqDiff, Nat.reduceLT]
  obtain ⟨hn, hl, hin⟩ := ock_ok hc
  have e1 : solveR n l = (solve n.toNat (clN l)).getD [] := if_pos hc
  have e2 : solveE n l = if (solve n.toNat (clN l)).isSome then 0 else 5 := if_pos hc
  rw [e1, e2]
  clear e1 e2
  obtain ⟨m, rfl⟩ : ∃ m : Nat, n = (m : Int) := ⟨n.toNat, by omega⟩
  rw [Int.toNat_natCast] at *
  have hfo : m ≤ 4 ∧ l.length < 2 ^ 40 ∧ OrsIn m l := ⟨by omega, by omega, hin⟩
  have c2 : (2 : Int) * (m : Int) = ((2 * m : Nat) : Int) := by omega
  have hm64 : 2 * m < 64 := by omega
  simp (implicitDefEqProofs := false) (dsimp := false) only [c2, hm64, follows_call, hfo, below_call, rflat_U, ↓nthK_H, ↓nthH_zero, ↓aw_seq, ↓aw_block, ↓aw_skip, ↓aw_loop, ↓aw_reg, ↓Qseq_n, ↓ops_nil, ↓ops_cons, ↓eval_tmp, ↓eval_int, ↓eval_func, ↓put_some, ↓iK_i, ↓dK_d, ↓capsK_nil, ↓capsK_cons, ↓binE_i, ↓bi_mul, ↓in_i64, ↓ldK_p, ↓op_move, ↓op_assign, ↓op_load, ↓op_bin, ↓op_func, ↓op_call, ↓op_make, isD_d, ↓fnK_f, ↓call_H, ↓callK_H, ↓allT_nil, ↓allT_cons, ↓td_d, ↓addRow_mk, ↓st_rw, ↓cells_c, ↓vcells_c, ↓one_b, constV_b, ↓mk_, ↓vsz_bool, ↓ty3, ↓ty4, ↓zb4, ↓sl46, List.getD_cons_zero, List.getD_cons_succ, List.set_cons_zero, List.set_cons_succ, List.cons_append, List.nil_append, List.append_nil, List.map_cons, List.map_nil, List.length_cons, List.length_nil, List.length_map, List.all_cons, List.all_nil, Bool.and_true, Bool.true_and, Bool.and_self, Bool.or_true, Bool.true_or, Nat.reduceAdd, Nat.reduceSub, Nat.reduceMul, Nat.zero_add, Int.toNat_natCast, evK_go, reduceIte, Nat.reduceEqDiff, Nat.reduceLT, and_self, true_and, and_true, Int.zero_add, Int.natCast_nonneg]
  (repeat refine OrH.l ?_)
  refine ⟨by omega, ?_⟩
  (repeat refine OrH.l ?_)
  refine ⟨⟨by omega, by decide⟩, ?_⟩
  have hgo := imp_good (clN_good hin)
  have hrs : ∀ p, p < 2 * m → rs (2 * m) (impL (clN l)) p < 2 ^ 64 := fun p hp => rs_lt (by omega) hgo hp
  have hrl := outS_len (2 * m) (impL (clN l))
  have hrx := outS_lt' (n := 2 * m) (by omega) hgo
  have hre : ∀ p, p < 2 * m → reach (outS (2 * m) (impL (clN l))) (2 ^ (2 * m) - 1) p = rs (2 * m) (impL (clN l)) p := fun p _ => rfl
  unfold solve
  clear hc hfo hin hgo
  generalize impL (clN l) = L at *
  generalize hN : outS (2 * m) L = next at *
  simp (implicitDefEqProofs := false) (dsimp := false) only [hrl]
  refine loopW (fun x : Nat × Nat × List Bool => { tm := slots 72 [(2, .p 0 0), (7, .o 0 0 (2 * m)), (8, .d (U (2 ^ (2 * m) - 1))), (9, .fp (.func 89) [0]), (10, .d (U x.2.1)), (11, .o 1 0 m), (32, .d (I .i64 (m : Int))), (33, .d (I .i64 x.1))], bx := [.d (I .i64 (m : Int))], rw := [some ⟨1, next.map U⟩, some ⟨1, (x.2.2 ++ List.replicate (m - x.1) false).map Bo⟩] })
    (fun x => x.1 ≤ m ∧ x.2.1 < 2 ^ 64 ∧ solveN m L x.1 = some x.2) (fun x => m - x.1) (0, 0, []) ⟨by simp, by decide, rfl⟩ ?_ ?_
  · refine Wkn.of [0] [some 0, some 1] ?_
    simp (implicitDefEqProofs := false) (dsimp := false) only [↓vcells_c, List.getD_cons_zero, List.getD_cons_succ, List.set_cons_zero, List.set_cons_succ, List.nil_append, List.map_cons, List.map_nil, List.length_cons, List.length_nil, Bool.and_true, Bool.true_and, Bool.and_self, Bool.or_false, Nat.reduceAdd, Nat.reduceSub, Nat.reduceMul, Nat.zero_add, List.replicate, evK_go, reduceIte, Nat.reduceEqDiff, Nat.reduceLT, and_self, true_and, and_true, Int.zero_add, List.foldl_cons, List.foldl_nil, Int.cast_ofNat_Int, slots, wkL_nil, wkL_cons, wkB_nil, wkB_cons, wkR_nil, wkR_some, wkV_j, wkV_d, wkV_o, wkV_p, wkV_fp, frz_d, oK_zs, oK_s, pK_z, dc_eq, reduceCtorEq, List.mem_cons, List.not_mem_nil, or_false, Option.some.injEq]
    exact ⟨fun b hb => by omega, by simp⟩
  · rintro ⟨k, s, o⟩ ⟨hk, hs, hso⟩
    simp only at hk hs hso
    simp (implicitDefEqProofs := false) (dsimp := false) only [slots, ↓aw_cond, ↓aw_seq, ↓aw_reg, ↓Qseq_n, ↓ops_nil, ↓ops_cons, ↓eval_tmp, ↓put_some, ↓bK_b, ↓binE_i, ↓bi_lss, ↓op_bin, List.getD_cons_zero, List.getD_cons_succ, List.set_cons_zero, List.set_cons_succ, Nat.reduceAdd, Nat.reduceSub, Nat.reduceMul, List.replicate, evK_go, reduceIte, Nat.reduceEqDiff, Nat.reduceLT, List.foldl_cons, List.foldl_nil, Int.ofNat_lt]
    refine cdK_dec (fun h => ?_) (fun h => ?_)
    · have hkm : k < m := by omega
      have hol : (o ++ List.replicate (m - k) false).length = m := by
        simp [solveN_len hso]; omega
      have c3 : (2 : Int) * (k : Int) + 1 = ((2 * k + 1 : Nat) : Int) := by omega
      have c4 : (2 : Int) * (k : Int) = ((2 * k : Nat) : Int) := by omega
      simp (implicitDefEqProofs := false) (dsimp := false) only [h, ↓aw_seq, ↓aw_block, ↓aw_skip, ↓aw_loop, ↓aw_reg, ↓Qseq_n, ↓ops_nil, ↓ops_cons, ↓eval_tmp, ↓eval_int, ↓eval_bool, ↓put_some, ↓dK_d, ↓binE_i, ↓bi_add, ↓bi_mul, ↓in_i64, ↓op_move, ↓op_assign, ↓op_bin, ↓op_build, ↓cells_c, ↓one_i, ↓bd114, List.getD_cons_zero, List.getD_cons_succ, List.set_cons_zero, List.set_cons_succ, List.cons_append, List.nil_append, List.length_cons, List.length_nil, List.all_cons, List.all_nil, Bool.true_and, Bool.and_self, Nat.reduceAdd, Nat.reduceSub, Nat.reduceMul, Nat.zero_add, evK_go, reduceIte, decide_true, Nat.reduceEqDiff, Nat.reduceLT, and_self, true_and, Int.zero_add]
      refine ⟨by omega, by omega, ?_⟩
      simp (implicitDefEqProofs := false) (dsimp := false) only [c4, Nat.reduceAdd, Nat.reduceSub, Nat.reduceMul, evK_go, reduceIte, Nat.reduceEqDiff, Nat.reduceLT]
      refine ⟨by omega, ?_⟩
      refine loopW (fun i : Nat => { tm := slots 72 [(2, .p 0 0), (7, .o 0 0 (2 * m)), (8, .d (U (2 ^ (2 * m) - 1))), (9, .fp (.func 89) [0]), (10, .d (U (sv m L k s (o ++ List.replicate (m - k) false) i).1)), (11, .o 1 0 m), (12, .d (I .i64 (k : Int))), (13, .d (Bo (sv m L k s (o ++ List.replicate (m - k) false) i).2.1)), (32, .d (I .i64 (m : Int))), (33, .d (I .i64 (k : Int))), (41, .d (.s [I .i64 (((2 * k : Nat) : Int) + 1), I .i64 ((2 * k : Nat) : Int)])), (42, .d (I .i64 (i : Int)))], bx := [.d (I .i64 (m : Int))], rw := [some ⟨1, next.map U⟩, some ⟨1, (sv m L k s (o ++ List.replicate (m - k) false) i).2.2.map Bo⟩] })
        (fun i => i ≤ 2) (fun i => 2 - i) 0 (by simp) ?_ ?_
      · refine Wkn.of [0] [some 0, some 1] ?_
        simp (implicitDefEqProofs := false) (dsimp := false) only [sv, ↓vcells_c, List.getD_cons_zero, List.getD_cons_succ, List.set_cons_zero, List.set_cons_succ, List.map_cons, List.map_nil, List.length_cons, List.length_nil, Bool.and_true, Bool.true_and, Bool.and_self, Bool.or_false, Nat.reduceAdd, Nat.reduceSub, Nat.reduceMul, Nat.zero_add, List.replicate, evK_go, reduceIte, Nat.reduceEqDiff, Nat.reduceLT, and_self, true_and, and_true, Int.zero_add, List.foldl_cons, List.foldl_nil, Int.cast_ofNat_Int, slots, wkL_nil, wkL_cons, wkB_nil, wkB_cons, wkR_nil, wkR_some, wkV_j, wkV_d, wkV_o, wkV_p, wkV_fp, frz_d, oK_zs, oK_s, pK_z, reduceCtorEq, List.mem_cons, List.not_mem_nil, or_false]
        exact fun b hb => by omega
      · intro i hi
        simp (implicitDefEqProofs := false) (dsimp := false) only [slots, ↓aw_cond, ↓aw_seq, ↓aw_reg, ↓Qseq_n, ↓ops_nil, ↓ops_cons, ↓eval_tmp, ↓eval_int, ↓put_some, ↓bK_b, ↓binE_i, ↓bi_lss, ↓op_bin, List.getD_cons_zero, List.getD_cons_succ, List.set_cons_zero, List.set_cons_succ, Nat.reduceAdd, Nat.reduceSub, Nat.reduceMul, List.replicate, evK_go, reduceIte, Nat.reduceEqDiff, Nat.reduceLT, List.foldl_cons, List.foldl_nil]
        refine cdK_dec (fun h2 => ?_) (fun h2 => ?_)
        · have hi2 : i < 2 := by omega
          have hS : [I .i64 (((2 * k : Nat) : Int) + 1), I .i64 ((2 * k : Nat) : Int)][i]? = some (I .i64 ((svP k i : Nat) : Int)) := by
            match i, hi2 with
            | 0, _ => rfl
            | 1, _ => rfl
          simp (implicitDefEqProofs := false) (dsimp := false) only [↓atK_H, ↓aw_seq, ↓aw_block, ↓aw_skip, ↓aw_reg, ↓Qseq_n, ↓ops_cons, ↓eval_tmp, ↓iK_i, ↓sK_s, ↓op_index, ↓ty3, ↓ar114, List.getD_cons_zero, List.getD_cons_succ, Bool.true_and, Nat.reduceAdd, Nat.reduceSub, Nat.reduceMul, Int.toNat_natCast, evK_go, reduceIte, Nat.reduceEqDiff, Nat.reduceLT, true_and, Int.cast_ofNat_Int, Int.natCast_nonneg]
          refine ⟨by omega, atH_of _ hS ?_⟩
          have e3 : List.take (2 * m) (List.map U next) = List.map U next := List.take_of_length_le (by simp [hrl])
          have hp : svP k i < next.length := by unfold svP; split <;> omega
          have hp2 := hre (svP k i) (by omega)
          have hn64 : next.length ≤ 64 := by omega
          have hw : 2 ^ (2 * m) - 1 < 2 ^ next.length := by rw [hrl]; have := Nat.two_pow_pos (2 * m); omega
          have hs64 := sv_lt (o := o ++ List.replicate (m - k) false) hs hrs hkm i
          have hr64 := hrs (svP k i) (by omega)
          have hsl := sv_len m L k s (o ++ List.replicate (m - k) false) i
          have hsv : sv m L k s (o ++ List.replicate (m - k) false) (i + 1) = if (!(sv m L k s (o ++ List.replicate (m - k) false) i).2.1 && fitsB m ((sv m L k s (o ++ List.replicate (m - k) false) i).1 ||| rs (2 * m) L (svP k i))) = true then ((sv m L k s (o ++ List.replicate (m - k) false) i).1 ||| rs (2 * m) L (svP k i), true, (sv m L k s (o ++ List.replicate (m - k) false) i).2.2.set k (decide (i = 1))) else sv m L k s (o ++ List.replicate (m - k) false) i := rfl
          generalize sv m L k s (o ++ List.replicate (m - k) false) i = z at *
          obtain ⟨s1, ch, ob⟩ := z
          simp only at hs64 hsl hsv
          simp (implicitDefEqProofs := false) (dsimp := false) only [e3, ↓optK_some, ↓rwK_mk_, ↓aw_seq, ↓aw_reg, ↓Qseq_n, ↓ops_nil, ↓ops_cons, ↓eval_tmp, ↓eval_func, ↓put_some, ↓op_move, ↓op_assign, ↓op_call, isD_d, isD_o, ↓fnK_f, ↓call_H, ↓callK_H, ↓allT_nil, ↓allT_cons, ↓td_d, ↓td_o, ↓row_xs, List.getD_cons_zero, List.getD_cons_succ, List.set_cons_zero, List.set_cons_succ, List.append_nil, List.all_cons, List.all_nil, Bool.and_true, Bool.and_self, Bool.and_false, Nat.reduceAdd, Nat.reduceSub, Nat.reduceMul, evK_go, reduceIte, Nat.reduceEqDiff, Nat.reduceLT, and_self, and_true, List.drop_zero]
          simp (implicitDefEqProofs := false) (dsimp := false) only [reach_call, hp, hn64, hw, hp2, ↓cdK_not, ↓gdK_t, ↓gval_mk, ↓gvL_zero, ↓gvL_succ, ↓aw_seq, ↓aw_reg, ↓Qseq_n, ↓ops_nil, ↓ops_cons, ↓ops_guard, ↓eval_tmp, ↓put_some, ↓bK_b, ↓binE_i, ↓bi_or, ↓op_move, ↓op_assign, ↓op_bin, ↓op_not, ↓st_tm, List.getD_cons_zero, List.getD_cons_succ, List.set_cons_zero, List.set_cons_succ, Bool.true_and, Bool.false_or, Nat.reduceAdd, Nat.reduceSub, Nat.reduceMul, evK_go, reduceIte, Nat.reduceEqDiff, Nat.reduceLT, true_and]
          generalize rs (2 * m) L (svP k i) = rp at *
          have hor : s1 ||| rp < 2 ^ 64 := Nat.or_lt_two_pow hs64 hr64
          (repeat refine OrH.l ?_)
          refine ⟨hrx, rfl, ⟨hs64, hr64⟩, ?_⟩
          cases ch with
          | true =>
            simp (implicitDefEqProofs := false) (dsimp := false) only [↓cdK_true, ↓cdK_false, ↓gdK_t, ↓gval_mk, ↓gvL_zero, ↓gvL_succ, ↓aw_cond, ↓aw_skip, ↓aw_reg, ↓Qseq_n, ↓Qblk_n, ↓ops_nil, ↓ops_cons, ↓ops_guard, ↓eval_tmp, ↓eval_int, ↓eval_bool, ↓put_some, ↓bK_b, ↓binE_i, ↓bi_add, ↓in_i64, ↓op_move, ↓op_pick, ↓op_bin, ↓st_tm, List.getD_cons_zero, List.getD_cons_succ, List.set_cons_zero, List.set_cons_succ, Nat.reduceAdd, Nat.reduceSub, Nat.reduceMul, evK_go, reduceIte, Bool.not_true, Nat.reduceEqDiff, Nat.reduceLT]
            refine ⟨by omega, i + 1, by omega, by omega, ?_⟩
            refine Wkn.of [0] [some 0, some 1] ?_
            rw [Bool.not_true, Bool.false_and, if_neg (by decide)] at hsv
            simp (implicitDefEqProofs := false) (dsimp := false) only [hsv, ↓vcells_c, List.getD_cons_zero, List.getD_cons_succ, List.set_cons_zero, List.set_cons_succ, List.map_cons, List.map_nil, List.length_cons, List.length_nil, Bool.and_true, Bool.true_and, Bool.and_self, Bool.or_false, Nat.reduceAdd, Nat.reduceSub, Nat.reduceMul, Nat.zero_add, List.replicate, evK_go, reduceIte, Nat.reduceEqDiff, Nat.reduceLT, and_self, true_and, and_true, Int.zero_add, List.foldl_cons, List.foldl_nil, Int.cast_ofNat_Int, Int.natCast_add, slots, wkL_nil, wkL_cons, wkB_nil, wkB_cons, wkR_nil, wkR_some, wkV_j, wkV_d, wkV_o, wkV_p, wkV_fp, frz_d, oK_zs, oK_s, pK_z, reduceCtorEq, List.mem_cons, List.not_mem_nil, or_false]
            exact fun b hb => by omega
          | false =>
            have hm8 : m ≤ 8 := by omega
            simp (implicitDefEqProofs := false) (dsimp := false) only [fits_call, hor, hm8, ↓cdK_true, ↓cdK_false, ↓gdK_t, ↓gval_mk, ↓gvL_zero, ↓gvL_succ, ↓aw_cond, ↓Qseq_n, ↓ops_nil, ↓ops_cons, ↓ops_guard, ↓eval_tmp, ↓put_some, ↓bK_b, ↓op_move, ↓op_pick, ↓op_call, isD_d, isD_fp, ↓fnK_f, ↓call_H, ↓callK_H, ↓allT_nil, ↓allT_cons, ↓td_d, ↓boxK_d, ↓td_fp, ↓bq_nil, ↓bq_cons, ↓st_tm, ↓cells_c, List.getD_cons_zero, List.getD_cons_succ, List.set_cons_zero, List.set_cons_succ, List.cons_append, List.nil_append, List.all_cons, List.all_nil, Bool.and_true, Bool.true_and, Bool.and_self, Bool.false_or, Nat.reduceAdd, Nat.reduceSub, Nat.reduceMul, evK_go, reduceIte, Bool.not_false, Nat.reduceEqDiff, Nat.reduceLT, and_self, true_and, and_true]
            (repeat refine OrH.l ?_)
            refine ⟨rfl, cdK_split (fun hf => ?_) (fun hf => ?_)⟩
            · have hkb : k < ob.length := by omega
              have hd : decide ((svP k i : Int) = ((2 * k : Nat) : Int)) = decide (i = 1) := by
                refine decide_eq_decide.2 ?_
                unfold svP
                split <;> omega
              rw [hf, Bool.not_false, Bool.true_and, if_pos rfl] at hsv
              simp (implicitDefEqProofs := false) (dsimp := false) only [c4, ↓optK_some, ↓rwK_mk_, ↓aw_seq, ↓aw_reg, ↓Qseq_n, ↓Qblk_n, ↓ops_nil, ↓ops_cons, ↓eval_tmp, ↓eval_int, ↓eval_bool, ↓put_some, ↓put_none, ↓iK_i, ↓dK_d, ↓binE_i, ↓bi_add, ↓bi_mul, ↓bi_eql, ↓in_i64, ↓iaK_o, ↓op_move, ↓op_assign, ↓op_bin, ↓op_ia, ↓op_store, ↓setRow_mk, ↓row_sz, ↓row_xs, ↓cells_c, ↓one_b, ↓st_e, ↓ty4, ↓sl46, List.getD_cons_zero, List.getD_cons_succ, List.set_cons_zero, List.set_cons_succ, List.length_cons, List.length_nil, List.all_cons, List.all_nil, Bool.true_and, Bool.and_self, Nat.reduceAdd, Nat.reduceSub, Nat.reduceMul, Nat.zero_add, Int.toNat_natCast, evK_go, reduceIte, Nat.reduceEqDiff, Nat.reduceLT, and_self, true_and, Int.zero_add, Int.ofNat_lt, Int.natCast_nonneg, Int.natCast_inj]
              refine ⟨by omega, by omega, by omega, i + 1, by omega, by omega, ?_⟩
              refine Wkn.of [0] [some 0, some 1] ?_
              have hd2 : decide (svP k i = 2 * k) = decide (i = 1) := by rw [← hd]; exact decide_eq_decide.2 (by omega)
              simp (implicitDefEqProofs := false) (dsimp := false) only [hsv, hd2, List.map_set, ↓vcells_c, List.getD_cons_zero, List.getD_cons_succ, List.set_cons_zero, List.set_cons_succ, List.map_cons, List.map_nil, List.length_cons, List.length_nil, Bool.and_true, Bool.true_and, Bool.and_self, Bool.or_false, Nat.reduceAdd, Nat.reduceSub, Nat.reduceMul, Nat.zero_add, List.replicate, evK_go, reduceIte, Nat.reduceEqDiff, Nat.reduceLT, and_self, true_and, and_true, Int.zero_add, List.foldl_cons, List.foldl_nil, Int.cast_ofNat_Int, Int.natCast_add, slots, wkL_nil, wkL_cons, wkB_nil, wkB_cons, wkR_nil, wkR_some, wkV_j, wkV_d, wkV_o, wkV_p, wkV_fp, frz_d, oK_zs, oK_s, pK_z, reduceCtorEq, List.mem_cons, List.not_mem_nil, or_false]
              exact fun b hb => by omega
            · rw [hf, Bool.and_false, if_neg (by decide)] at hsv
              simp (implicitDefEqProofs := false) (dsimp := false) only [↓aw_skip, ↓aw_reg, ↓Qseq_n, ↓Qblk_n, ↓ops_nil, ↓ops_cons, ↓eval_tmp, ↓eval_int, ↓put_some, ↓binE_i, ↓bi_add, ↓in_i64, ↓op_move, ↓op_bin, List.getD_cons_zero, List.getD_cons_succ, List.set_cons_zero, List.set_cons_succ, Nat.reduceAdd, Nat.reduceSub, Nat.reduceMul, evK_go, reduceIte, Nat.reduceEqDiff, Nat.reduceLT]
              refine ⟨by omega, i + 1, by omega, by omega, ?_⟩
              refine Wkn.of [0] [some 0, some 1] ?_
              simp (implicitDefEqProofs := false) (dsimp := false) only [hsv, ↓vcells_c, List.getD_cons_zero, List.getD_cons_succ, List.set_cons_zero, List.set_cons_succ, List.map_cons, List.map_nil, List.length_cons, List.length_nil, Bool.and_true, Bool.true_and, Bool.and_self, Bool.or_false, Nat.reduceAdd, Nat.reduceSub, Nat.reduceMul, Nat.zero_add, List.replicate, evK_go, reduceIte, Nat.reduceEqDiff, Nat.reduceLT, and_self, true_and, and_true, Int.zero_add, List.foldl_cons, List.foldl_nil, Int.cast_ofNat_Int, Int.natCast_add, slots, wkL_nil, wkL_cons, wkB_nil, wkB_cons, wkR_nil, wkR_some, wkV_j, wkV_d, wkV_o, wkV_p, wkV_fp, frz_d, oK_zs, oK_s, pK_z, reduceCtorEq, List.mem_cons, List.not_mem_nil, or_false]
              exact fun b hb => by omega
        · obtain rfl : i = 2 := by omega
          simp (implicitDefEqProofs := false) (dsimp := false) only [sv_two, eval_nilI, ↓cdK_not, ↓optK_some, ↓rwK_mk_, ↓aw_cond, ↓aw_seq, ↓aw_exit, ↓aw_ret, ↓aw_reg, ↓Qseq_n, ↓Qseq_x, ↓Qblk_x, ↓Qret_r, ↓ops_nil, ↓ops_cons, ↓eval_tmp, ↓eval_int, ↓put_some, ↓bK_b, ↓binE_i, ↓bi_add, ↓in_i64, ↓op_move, ↓op_assign, ↓op_bin, ↓op_not, ↓td_d, ↓td_o, ↓ret_2, ↓row_xs, List.getD_cons_zero, List.getD_cons_succ, List.set_cons_zero, List.set_cons_succ, Nat.reduceAdd, Nat.reduceSub, Nat.reduceMul, evK_go, reduceIte, Nat.reduceEqDiff, Nat.reduceLT, List.drop_zero, Int.cast_ofNat_Int]
          cases hI : solveI m L k s with
          | none =>
            have hno : solveN m L m = none := solveN_up (k := k + 1) (by unfold solveN; rw [hso]; simp (implicitDefEqProofs := false) (dsimp := false) only [hI]) m (by omega)
            rw [hno]
            simp (implicitDefEqProofs := false) (dsimp := false) only [↓cdK_false, ↓aw_seq, ↓aw_ret, ↓aw_reg, ↓Qseq_n, ↓Qseq_r, ↓Qblk_r, ↓Qret_r, ↓ops_nil, ↓ops_cons, ↓eval_tmp, ↓eval_int, ↓eval_nil, ↓put_some, ↓vK_c, ↓op_assign, ↓op_iface, ↓td_d, ↓td_nl, ↓ret_2, ↓nc108, List.getD_cons_zero, List.getD_cons_succ, List.set_cons_zero, List.set_cons_succ, Bool.true_and, Nat.reduceAdd, Nat.reduceSub, Nat.reduceMul, evK_go, reduceIte, Bool.not_false, Nat.reduceEqDiff, Nat.reduceLT, true_and]
            rfl
          | some sb =>
            obtain ⟨s', b⟩ := sb
            have hsm : solveN m L (k + 1) = some (s', o ++ [b]) := by unfold solveN; rw [hso]; simp (implicitDefEqProofs := false) (dsimp := false) only [hI]
            have hs' := sv_lt (o := o ++ List.replicate (m - k) false) hs hrs hkm 2
            rw [sv_two, hI] at hs'
            have hset : (o ++ List.replicate (m - k) false).set k b = (o ++ [b]) ++ List.replicate (m - (k + 1)) false := by
              have hl := solveN_len hso
              rw [List.set_append, if_neg (by omega), hl, Nat.sub_self]
              obtain ⟨q, hq⟩ : ∃ q, m - k = q + 1 := ⟨m - k - 1, by omega⟩
              rw [hq, show m - (k + 1) = q by omega]
              simp [List.replicate_succ]
            simp (implicitDefEqProofs := false) (dsimp := false) only [↓cdK_true, ↓aw_skip, ↓aw_reg, ↓Qseq_n, ↓Qblk_n, ↓ops_nil, ↓ops_cons, ↓eval_tmp, ↓eval_int, ↓put_some, ↓binE_i, ↓bi_add, ↓in_i64, ↓op_move, ↓op_bin, List.getD_cons_zero, List.getD_cons_succ, List.set_cons_zero, List.set_cons_succ, Nat.reduceAdd, Nat.reduceSub, Nat.reduceMul, evK_go, reduceIte, Bool.not_true, Nat.reduceEqDiff, Nat.reduceLT]
            refine ⟨by omega, ⟨k + 1, s', o ++ [b]⟩, ⟨by omega, hs', hsm⟩, by simp only; omega, ?_⟩
            refine Wkn.of [0] [some 0, some 1] ?_
            simp (implicitDefEqProofs := false) (dsimp := false) only [hset, ↓vcells_c, List.getD_cons_zero, List.getD_cons_succ, List.set_cons_zero, List.set_cons_succ, List.map_cons, List.map_nil, List.length_cons, List.length_nil, Bool.and_true, Bool.true_and, Bool.and_self, Bool.or_false, Nat.reduceAdd, Nat.reduceSub, Nat.reduceMul, Nat.zero_add, List.replicate, evK_go, reduceIte, Nat.reduceEqDiff, Nat.reduceLT, and_self, true_and, and_true, Int.zero_add, List.foldl_cons, List.foldl_nil, Int.cast_ofNat_Int, Int.natCast_add, slots, wkL_nil, wkL_cons, wkB_nil, wkB_cons, wkR_nil, wkR_some, wkV_j, wkV_d, wkV_o, wkV_p, wkV_fp, frz_d, oK_zs, oK_s, pK_z, reduceCtorEq, List.mem_cons, List.not_mem_nil, or_false]
            exact fun b hb => by omega
    · obtain rfl : k = m := by omega
      have hl := solveN_len hso
      rw [hso]
      simp (implicitDefEqProofs := false) (dsimp := false) only [Nat.sub_self, eval_nilI, ↓optK_some, ↓rwK_mk_, ↓aw_seq, ↓aw_exit, ↓aw_ret, ↓aw_reg, ↓Qseq_n, ↓Qseq_x, ↓Qblk_x, ↓Qret_r, ↓ops_nil, ↓ops_cons, ↓eval_tmp, ↓put_some, ↓op_move, ↓op_assign, ↓td_d, ↓td_o, ↓ret_2, ↓row_xs, List.getD_cons_zero, List.getD_cons_succ, List.set_cons_zero, List.set_cons_succ, List.append_nil, Nat.reduceAdd, Nat.reduceSub, Nat.reduceMul, List.replicate, evK_go, reduceIte, decide_false, Nat.reduceEqDiff, Nat.reduceLT, Nat.lt_irrefl, List.drop_zero]
      rw [List.take_of_length_le (by simp [hl])]
      rfl
theorem psolve_call (n : Int) (l : List OrT) (pure : Bool) (σ : St) (dst : Option Tmp) (K : St → Prop) : CallH Tryd.prog 36 [I .i64 n, .l (l.map orD)] pure σ dst (.mk : Hid K) = OrH ((l.length < 2 ^ 62) ∧ (pure || D.flat (.t [.l ((solveR n l).map Bo), erD (solveE n l)])) = true ∧ evK (σ.put dst (.d (.t [.l ((solveR n l).map Bo), erD (solveE n l)]))) (.mk : Hid K)) (.mk : Hid (CallH Tryd.prog 36 [I .i64 n, .l (l.map orD)] pure σ dst (.mk : Hid K))) := CallH.eq (psolve_spec n l) pure σ dst K
theorem psolve_callQ (n : Int) (l : List OrT) (pure : Bool) (C : V → Prop) : CallQ Tryd.prog 36 [I .i64 n, .l (l.map orD)] pure (.mk : Hid C) = OrH ((l.length < 2 ^ 62) ∧ (pure || D.flat (.t [.l ((solveR n l).map Bo), erD (solveE n l)])) = true ∧ evK (V.d (.t [.l ((solveR n l).map Bo), erD (solveE n l)])) (.mk : Hid C)) (.mk : Hid (CallQ Tryd.prog 36 [I .i64 n, .l (l.map orD)] pure (.mk : Hid C))) := CallQ.eq (psolve_spec n l) pure C
end Go.Proofs

namespace Go.Proofs
open Go.RowKit Go.Extern.Stop Go.Stop Go.Extern

/-- errors.As(nil, target). -/
theorem as_nil (t : Value) (w : World) :
    Calls Tryd.prog 113 #[.nilIface, t] w fun e w' => e = .returned (.bool false) ∧ w' = w := by
  go_enter Tryd.func113, Tryd.ntmps113
  go_wp2
  go_ret
  exact ⟨rfl, rfl⟩

/-! ### CLOSED FACTS ON THE MODEL's ENTRIES FOR internal/reflectlite, at this program's types: 25: *p.E · 27: **p.E · 23: error · 45: reflectlite's rtype · 1: how many package-level variables the dump has -/
theorem AsE.valueOf27 (t : Addr) (w : World) : (ReflectliteValue.unpack (.iface 126 (.pointer (some t)))).run Tryd.prog w
    = .ok (.agg #[.pointer (some ⟨1, 126, none⟩), .pointer (some ⟨w.heap.size, 0, none⟩), .int .u64 150]) (w.alloc (.cells #[.pointer (some t)] 126)) := by kernel_rfl
theorem AsE.type27 (a : Addr) (w : World) : (ReflectliteValue.methodAny (ReflectliteValue.valueError "reflectlite.Value.Type" 0) (fun t _ _ _ => ReflectliteType.toType t) #[.agg #[.pointer (some ⟨1, 126, none⟩), .pointer (some a), .int .u64 150]]).run Tryd.prog w
    = .ok (.iface 142 (.agg #[.pointer (some ⟨1, 126, none⟩)])) w := by kernel_rfl
theorem AsE.methodKind (h : Value) (w : World) : (Go.method 284 142 (.agg #[h]) "Kind").run Tryd.prog w = .ok (138, h) w := by kernel_rfl
theorem AsE.kind27 (w : World) : ((ReflectliteType.abiMethod fun t => (fun a : Nat => Value.int IntKind.u8 (a : Int)) <$> Rtype.kind t) #[.pointer (some ⟨1, 126, none⟩)]).run Tryd.prog w = .ok (.int .u8 22) w := by kernel_rfl
theorem AsE.kind25 (w : World) : ((ReflectliteType.abiMethod fun t => (fun a : Nat => Value.int IntKind.u8 (a : Int)) <$> Rtype.kind t) #[.pointer (some ⟨1, 108, none⟩)]).run Tryd.prog w = .ok (.int .u8 2) w := by kernel_rfl

/-! ### THE ENTRIES THAT READ OR WRITE MEMORY: laws with a premise on the cell (after Derived/Lib/ReflectliteSlice.lean's manner: each unfolding a lemma of its own, by rfl) -/
theorem rlm (z : Sem Value) (f : TypeId → Addr → Nat → Nat → Sem Value) (v : Value) :
    ReflectliteValue.method z f #[v] = (do match ← ReflectliteValue.parts v with | none => z | some (t, a, fl) => f t a fl (fl % 32)) := rfl
theorem AsE.parts27 (a : Addr) (w : World) : (ReflectliteValue.parts (.agg #[.pointer (some ⟨1, 126, none⟩), .pointer (some a), .int .u64 150])).run Tryd.prog w = .ok (some (126, a, 150)) w := by kernel_rfl
/-- (Value).IsNil at the Value of a **p.E that is not nil. -/
theorem AsE.isNil27 (a p : Addr) (W : World) (ha : W.cell? a = some (.pointer (some p))) :
    (ReflectliteValue.method (ReflectliteValue.valueError "reflectlite.Value.IsNil" 0) ReflectliteValue.isNil #[.agg #[.pointer (some ⟨1, 126, none⟩), .pointer (some a), .int .u64 150]]).run Tryd.prog W = .ok (.bool false) W := by
  rw [rlm]
  simp only [Sem.run_bind, AsE.parts27, Result.andThen]
  simp [ReflectliteValue.isNil, loadVar, isAgg, underlying, Tryd.underlying126, ha, Result.andThen]

theorem AsE.methodElem (h : Value) (w : World) : (Go.method 284 142 (.agg #[h]) "Elem").run Tryd.prog w = .ok (148, .agg #[h]) w := by kernel_rfl
theorem AsE.methodImplements (h : Value) (w : World) : (Go.method 284 142 (.agg #[h]) "Implements").run Tryd.prog w = .ok (149, .agg #[h]) w := by kernel_rfl
theorem AsE.methodAssignableTo (h : Value) (w : World) : (Go.method 284 142 (.agg #[h]) "AssignableTo").run Tryd.prog w = .ok (146, .agg #[h]) w := by kernel_rfl
theorem AsE.elem27 (w : World) : (ReflectliteType.method ReflectliteType.elem #[.agg #[.pointer (some ⟨1, 126, none⟩)]]).run Tryd.prog w = .ok (.iface 142 (.agg #[.pointer (some ⟨1, 108, none⟩)])) w := by kernel_rfl
theorem AsE.implements25 (w : World) : (ReflectliteType.relation "Implements" ReflectliteType.implements_ #[.agg #[.pointer (some ⟨1, 108, none⟩)], .iface 142 (.agg #[.pointer (some ⟨1, 29, none⟩)])]).run Tryd.prog w = .ok (.bool true) w := by kernel_rfl
theorem AsE.typeOf25 (v : Value) (w : World) : (ReflectliteType.typeOf #[.iface 108 v]).run Tryd.prog w = .ok (.iface 142 (.agg #[.pointer (some ⟨1, 108, none⟩)])) w := by kernel_rfl
theorem AsE.assignable25 (w : World) : (ReflectliteType.relation "AssignableTo" ReflectliteType.assignableTo #[.agg #[.pointer (some ⟨1, 108, none⟩)], .iface 142 (.agg #[.pointer (some ⟨1, 108, none⟩)])]).run Tryd.prog w = .ok (.bool true) w := by kernel_rfl
theorem AsE.valueOf25 (e : Int) (w : World) : (ReflectliteValue.unpack (.iface 108 (.int .i64 e))).run Tryd.prog w
    = .ok (.agg #[.pointer (some ⟨1, 108, none⟩), .pointer (some ⟨w.heap.size, 0, none⟩), .int .u64 130]) (w.alloc (.cells #[.int .i64 e] 108)) := by kernel_rfl

theorem AsE.elemOf27 (w : World) : (Rtype.elem? 126).run Tryd.prog w = .ok (some 108) w := by kernel_rfl
theorem AsE.mk25 (p : Addr) (w : World) : (ReflectliteValue.mk 108 p ReflectliteValue.flagAddr).run Tryd.prog w = .ok (.agg #[.pointer (some ⟨1, 108, none⟩), .pointer (some p), .int .u64 386]) w := by kernel_rfl
/-- (Value).Elem at the Value of a **p.E that is not nil: the Value of the *p.E variable that it points to, addressable. -/
theorem AsE.elemV27 (a p : Addr) (W : World) (ha : W.cell? a = some (.pointer (some p))) :
    (ReflectliteValue.method (ReflectliteValue.valueError "reflectlite.Value.Elem" 0) ReflectliteValue.elem #[.agg #[.pointer (some ⟨1, 126, none⟩), .pointer (some a), .int .u64 150]]).run Tryd.prog W
      = .ok (.agg #[.pointer (some ⟨1, 108, none⟩), .pointer (some p), .int .u64 386]) W := by
  rw [rlm]
  simp only [Sem.run_bind, AsE.parts27, Result.andThen]
  simp [ReflectliteValue.elem, loadVar, isAgg, underlying, Tryd.underlying126, ha, Result.andThen, AsE.elemOf27, AsE.mk25]
theorem rls (v x : Value) : ReflectliteValue.set #[v, x] = (do
    let (some (dst, a, fl), some (src, b, _)) := (← ReflectliteValue.parts v, ← ReflectliteValue.parts x)
      | unsupported (.noEntry "extern/(internal/reflectlite.Value).Set.zeroValue")
    if fl / ReflectliteValue.flagAddr % 2 == 0 then unsupported (.noEntry "extern/(internal/reflectlite.Value).Set.unaddressable")
    let val ← loadVar src b
    if ← Rtype.directlyAssignable dst src then storeVar dst a val
    else if ← Rtype.implements dst src then
      if (← Rtype.kind src) == 20 then
        match val with
        | .nilIface => unsupported (.noEntry "extern/reflectlite: a nil value of one interface type handed on as a value of another")
        | _ => storeVar dst a val
      else storeVar dst a (.iface src val)
    else panicString ("reflectlite.Set: value of type " ++ (← Rtype.spelt src) ++ " is not assignable to type " ++ (← Rtype.spelt dst))
    pure (.tuple #[])) := rfl
theorem AsE.parts25a (a : Addr) (w : World) : (ReflectliteValue.parts (.agg #[.pointer (some ⟨1, 108, none⟩), .pointer (some a), .int .u64 386])).run Tryd.prog w = .ok (some (108, a, 386)) w := by kernel_rfl
theorem AsE.parts25 (a : Addr) (w : World) : (ReflectliteValue.parts (.agg #[.pointer (some ⟨1, 108, none⟩), .pointer (some a), .int .u64 130])).run Tryd.prog w = .ok (some (108, a, 130)) w := by kernel_rfl
theorem AsE.direct25 (w : World) : (Rtype.directlyAssignable 108 108).run Tryd.prog w = .ok true w := by kernel_rfl
theorem AsE.size25 (w : World) : (sizeOf 108).run Tryd.prog w = .ok 1 w := by kernel_rfl
/-- (Value).Set: the *p.E variable at 'ta' gets what the Value's own variable 'b' holds. -/
theorem AsE.set25 (ta b : Addr) (e : Int) (old : Value) (W : World) (hb : W.cell? b = some (.int .i64 e)) (ht : W.cell? ta = some old) (hf : W.frozen? ta = false) :
    (ReflectliteValue.set #[.agg #[.pointer (some ⟨1, 108, none⟩), .pointer (some ta), .int .u64 386], .agg #[.pointer (some ⟨1, 108, none⟩), .pointer (some b), .int .u64 130]]).run Tryd.prog W
      = .ok (.tuple #[]) (W.setCell ta (.int .i64 e)) := by
  rw [rls]
  simp only [Sem.run_bind, AsE.parts25a, AsE.parts25, Result.andThen]
  simp [ReflectliteValue.flagAddr, loadVar, isAgg, underlying, Tryd.underlying108, hb, Result.andThen, AsE.direct25, storeVar, Value.cells, storeCells, Addr.add]
  rw [run_store Tryd.prog W ta _ _ (by rfl)]
  simp [ht, hf]

set_option maxHeartbeats 4000000 in
theorem as_hit (e : Int) (t : Addr) (old : Value) (w : World) (hg : w.cell? ⟨0, 0, none⟩ = some (.iface 142 (.agg #[.pointer (some ⟨1, 29, none⟩)]))) (ht0 : w.cell? t = some old) (hf0 : w.frozen? t = false) :
    Calls Tryd.prog 113 #[.iface 108 (.int .i64 e), .iface 126 (.pointer (some t))] w fun ev w' => ev = .returned (.bool true) ∧ w' = ((((w.alloc (.cells #[.pointer (some t)] 126)).alloc (.cells #[.pointer (some ⟨1, 126, none⟩), .pointer (some ⟨w.heap.size, 0, none⟩), .int .u64 150] 132)).alloc (.cells #[.pointer (some ⟨1, 126, none⟩), .pointer (some ⟨w.heap.size, 0, none⟩), .int .u64 150] 132)).alloc (.cells #[.int .i64 e] 108)).setCell t (.int .i64 e) := by
  have h6 := @run_callFunc_extern Tryd.prog 117 _ (fun args => ReflectliteValue.unpack (args.getD 0 (.tuple #[]))) Tryd.func117 (by kernel_rfl) (by kernel_rfl) (by kernel_rfl) (by kernel_rfl)
  have h7 := @run_callFunc_extern Tryd.prog 118 _ (ReflectliteValue.methodAny (ReflectliteValue.valueError "reflectlite.Value.Type" 0) (fun t _ _ _ => ReflectliteType.toType t)) Tryd.func118 (by kernel_rfl) (by kernel_rfl) (by kernel_rfl) (by kernel_rfl)
  have h8 := @run_callFunc_extern Tryd.prog 119 _ (ReflectliteValue.method (ReflectliteValue.valueError "reflectlite.Value.IsNil" 0) ReflectliteValue.isNil) Tryd.func119 (by kernel_rfl) (by kernel_rfl) (by kernel_rfl) (by kernel_rfl)
  have h27 := @run_callFunc_extern Tryd.prog 138 _ (ReflectliteType.abiMethod fun t => do pure (.int .u8 (← Rtype.kind t))) Tryd.func138 (by kernel_rfl) (by kernel_rfl) (by kernel_rfl) (by kernel_rfl)
  have h37 := @run_callFunc_extern Tryd.prog 148 _ (ReflectliteType.method ReflectliteType.elem) Tryd.func148 (by kernel_rfl) (by kernel_rfl) (by kernel_rfl) (by kernel_rfl)
  have h38 := @run_callFunc_extern Tryd.prog 149 _ (ReflectliteType.relation "Implements" ReflectliteType.implements_) Tryd.func149 (by kernel_rfl) (by kernel_rfl) (by kernel_rfl) (by kernel_rfl)
  have h10 := @run_callFunc_extern Tryd.prog 121 _ ReflectliteType.typeOf Tryd.func121 (by kernel_rfl) (by kernel_rfl) (by kernel_rfl) (by kernel_rfl)
  have h35 := @run_callFunc_extern Tryd.prog 146 _ (ReflectliteType.relation "AssignableTo" ReflectliteType.assignableTo) Tryd.func146 (by kernel_rfl) (by kernel_rfl) (by kernel_rfl) (by kernel_rfl)
  have h11 := @run_callFunc_extern Tryd.prog 122 _ (ReflectliteValue.method (ReflectliteValue.valueError "reflectlite.Value.Elem" 0) ReflectliteValue.elem) Tryd.func122 (by kernel_rfl) (by kernel_rfl) (by kernel_rfl) (by kernel_rfl)
  have h12 := @run_callFunc_extern Tryd.prog 123 _ ReflectliteValue.set Tryd.func123 (by kernel_rfl) (by kernel_rfl) (by kernel_rfl) (by kernel_rfl)
  have tO := AsE.typeOf25
  have mA := AsE.methodAssignableTo
  have a25 := AsE.assignable25
  have v25 := AsE.valueOf25
  have f6 := AsE.valueOf27
  have f7 := AsE.type27
  have mK := AsE.methodKind
  have mE := AsE.methodElem
  have mI := AsE.methodImplements
  have k27 := AsE.kind27
  have k25 := AsE.kind25
  have e27 := AsE.elem27
  have i25 := AsE.implements25
  have n8 := AsE.isNil27 ⟨w.heap.size, 0, none⟩ t ((w.alloc (.cells #[.pointer (some t)] 126)).alloc (.cells #[.pointer (some ⟨1, 126, none⟩), .pointer (some ⟨w.heap.size, 0, none⟩), .int .u64 150] 132)) (by simp)
  have hlt : 0 < w.heap.size := by
    rcases Nat.eq_zero_or_pos w.heap.size with h0 | h
    · simp [World.cell?, h0] at hg
    · exact h
  have hg2 : ((w.alloc (.cells #[.pointer (some t)] 126)).alloc (.cells #[.pointer (some ⟨1, 126, none⟩), .pointer (some ⟨w.heap.size, 0, none⟩), .int .u64 150] 132)).cell? ⟨0, 0, none⟩ = some (.iface 142 (.agg #[.pointer (some ⟨1, 29, none⟩)])) := by
    rw [World.cell?_alloc_lt _ _ ⟨0, 0, none⟩ (by simp), World.cell?_alloc_lt _ _ ⟨0, 0, none⟩ hlt]; exact hg
  have htl : t.block < w.heap.size := by
    rcases Nat.lt_or_ge t.block w.heap.size with h | h
    · exact h
    · simp [World.cell?, Array.getElem?_eq_none h] at ht0
  have el := AsE.elemV27 ⟨w.heap.size, 0, none⟩ t (((w.alloc (.cells #[.pointer (some t)] 126)).alloc (.cells #[.pointer (some ⟨1, 126, none⟩), .pointer (some ⟨w.heap.size, 0, none⟩), .int .u64 150] 132)).alloc (.cells #[.pointer (some ⟨1, 126, none⟩), .pointer (some ⟨w.heap.size, 0, none⟩), .int .u64 150] 132)) (by rw [World.cell?_alloc_lt _ _ ⟨w.heap.size, 0, none⟩ (by simp; omega)]; simp)
  have st := AsE.set25 t ⟨w.heap.size + 1 + 1 + 1, 0, none⟩ e old ((((w.alloc (.cells #[.pointer (some t)] 126)).alloc (.cells #[.pointer (some ⟨1, 126, none⟩), .pointer (some ⟨w.heap.size, 0, none⟩), .int .u64 150] 132)).alloc (.cells #[.pointer (some ⟨1, 126, none⟩), .pointer (some ⟨w.heap.size, 0, none⟩), .int .u64 150] 132)).alloc (.cells #[.int .i64 e] 108))
    (by rw [World.cell?_alloc_at _ _ _ _ (by simp)]; rfl)
    (by rw [World.cell?_alloc_lt _ _ t (by simp; omega), World.cell?_alloc_lt _ _ t (by simp; omega), World.cell?_alloc_lt _ _ t (by simp; omega), World.cell?_alloc_lt _ _ t htl]; exact ht0)
    (by rw [World.frozen?_alloc_old _ _ t (by simp; omega), World.frozen?_alloc_old _ _ t (by simp; omega), World.frozen?_alloc_old _ _ t (by simp; omega), World.frozen?_alloc_old _ _ t (Nat.ne_of_lt htl)]; exact hf0)
  go_enter Tryd.func113, Tryd.ntmps113
  go_wp2
  refine wp_loop_rounds 1 ?_
  rw [rounds_succ]
  go_wp2
  go_ret
  exact ⟨rfl, rfl⟩
end Go.Proofs

namespace Go.Proofs
open Go.Aw Go.RowKit Go.Extern.Stop Go.Stop Go.Extern
theorem hnd_eq : hnd Tryd.prog = .iface 142 (.agg #[.pointer (some ⟨1, 29, none⟩)]) := by kernel_rfl
theorem glob_eq : Tryd.prog.globalNamed "errors.errorType" = some 0 := by kernel_rfl
theorem told_nil (w : World) : Calls Tryd.prog 86 #[.nilIface] w fun e w' => e = .returned (.int .i64 0) ∧ w' = w := by
  go_enter Tryd.func86, Tryd.ntmps86
  go_wp2
  go_ret
  exact ⟨rfl, rfl⟩
set_option maxHeartbeats 4000000 in
theorem told_some (n : Int) (w : World) (hg : w.cell? ⟨0, 0, none⟩ = some (.iface 142 (.agg #[.pointer (some ⟨1, 29, none⟩)]))) : Calls Tryd.prog 86 #[.iface 108 (.int .i64 n)] w fun e w' => e = .returned (.int .i64 n) ∧ Below w.heap.size w w' := by
  have hlt : 0 < w.heap.size := by
    rcases Nat.eq_zero_or_pos w.heap.size with h0 | h
    · simp [World.cell?, h0] at hg
    · exact h
  have hgA : (w.alloc (.cells #[.int .i64 0] 108)).cell? ⟨0, 0, none⟩ = some (.iface 142 (.agg #[.pointer (some ⟨1, 29, none⟩)])) := by
    rw [World.cell?_alloc_lt _ _ ⟨0, 0, none⟩ hlt]; exact hg
  have htA : (w.alloc (.cells #[.int .i64 0] 108)).cell? ⟨w.heap.size, 0, none⟩ = some (.int .i64 0) := by simp
  have hfA : (w.alloc (.cells #[.int .i64 0] 108)).frozen? ⟨w.heap.size, 0, none⟩ = false := by simp
  go_enter Tryd.func86, Tryd.ntmps86
  go_wp2_with (first | (go_at_call 113; refine (as_hit n _ (.int .i64 0) _ hgA htA hfA).mono ?_; rintro e w' ⟨rfl, rfl⟩))
  go_ret
  refine ⟨rfl, ?_⟩
  exact (((((Below.refl _ w).alloc (Nat.le_refl _) _).alloc (by simp) _).alloc (by simp; omega) _).alloc (by simp; omega) _).alloc (by simp; omega) _
theorem told_spec (e : Int) : FnD Tryd.prog 86 [erD e] (I .i64 e) := by
  refine ⟨fun args w => enters_of Tryd.func86 rfl rfl args w, fun w N vs hg hN ha => ?_⟩
  obtain ⟨v, rfl⟩ := List.length_eq_one_iff.1 ha.1
  have hv := ha.2 0 _ v rfl rfl
  have hc := hg 0 glob_eq
  rw [hnd_eq] at hc
  have key : Calls Tryd.prog 86 #[v] w fun ev w' => ev = .returned (.int .i64 e) ∧ Below w.heap.size w w' := by
    by_cases h : e = 0
    · subst h
      cases hv
      exact (told_nil w).mono fun ev w' ⟨h1, h2⟩ => ⟨h1, by rw [h2]; exact Below.refl _ _⟩
    · have hv : RelD w N (.c (.iface 108 (.int .i64 e))) v := by
        have e1 : erD e = .c (.iface 108 (.int .i64 e)) := if_neg h
        rwa [e1] at hv
      cases hv
      exact told_some e w hc
  exact (callsIn_wide.2 key).mono fun ev w' ⟨h1, h2⟩ => ⟨_, _, rfl, h1, h2, .c _⟩
end Go.Proofs

namespace Go.Proofs
open Go.Aw
set_option linter.unusedSimpArgs false
set_option maxRecDepth 10000
theorem told_call (e : Int) (pure : Bool) (σ : St) (dst : Option Tmp) (K : St → Prop) : CallH Tryd.prog 86 [erD e] pure σ dst (.mk : Hid K) = OrH ((pure || D.flat (I .i64 e)) = true ∧ evK (σ.put dst (.d (I .i64 e))) (.mk : Hid K)) (.mk : Hid (CallH Tryd.prog 86 [erD e] pure σ dst (.mk : Hid K))) := CallH.eq0 (told_spec e) pure σ dst K
theorem told_callQ (e : Int) (pure : Bool) (C : V → Prop) : CallQ Tryd.prog 86 [erD e] pure (.mk : Hid C) = OrH ((pure || D.flat (I .i64 e)) = true ∧ evK (V.d (I .i64 e)) (.mk : Hid C)) (.mk : Hid (CallQ Tryd.prog 86 [erD e] pure (.mk : Hid C))) := CallQ.eq0 (told_spec e) pure C
theorem eerr_spec (e n : Int) : FnD Tryd.prog 24 [erD e, I .i64 n] (Bo (decide (e = n))) := by
  refine FnD.go Tryd.func24 rfl rfl Tryd.results24 Tryd.ntmps24 ?_
  simp (implicitDefEqProofs := false) (dsimp := false) only [↓aw_seq, ↓aw_reg, ↓Qseq_n, ↓ops_nil, ↓ops_cons, ↓eval_tmp, ↓eval_bool, ↓eval_func, ↓put_some, ↓op_move, ↓op_assign, ↓op_call, isD_d, ↓fnK_f, ↓call_H, ↓callK_H, ↓allT_nil, ↓allT_cons, ↓td_d, List.getD_cons_zero, List.getD_cons_succ, List.set_cons_zero, List.set_cons_succ, List.cons_append, List.nil_append, List.append_nil, List.map_cons, List.map_nil, List.length_cons, List.length_nil, List.all_cons, List.all_nil, Bool.and_self, Nat.reduceAdd, Nat.reduceSub, Nat.reduceMul, Nat.zero_add, List.replicate, evK_go, reduceIte, Nat.reduceEqDiff, Nat.reduceLT, and_self, Int.zero_add]
  simp (implicitDefEqProofs := false) (dsimp := false) only [told_call, ↓aw_seq, ↓aw_ret, ↓aw_reg, ↓Qseq_n, ↓Qret_r, ↓ops_nil, ↓ops_cons, ↓eval_tmp, ↓put_some, ↓binE_i, ↓bi_eql, ↓op_move, ↓op_assign, ↓op_bin, ↓orH_T, ↓td_d, ↓ret_1, List.getD_cons_zero, List.getD_cons_succ, List.set_cons_zero, List.set_cons_succ, Bool.and_self, Bool.true_or, Nat.reduceAdd, Nat.reduceSub, Nat.reduceMul, evK_go, reduceIte, Nat.reduceEqDiff, Nat.reduceLT, and_self]
theorem eerr_call (e n : Int) (pure : Bool) (σ : St) (dst : Option Tmp) (K : St → Prop) : CallH Tryd.prog 24 [erD e, I .i64 n] pure σ dst (.mk : Hid K) = OrH ((pure || D.flat (Bo (decide (e = n)))) = true ∧ evK (σ.put dst (.d (Bo (decide (e = n))))) (.mk : Hid K)) (.mk : Hid (CallH Tryd.prog 24 [erD e, I .i64 n] pure σ dst (.mk : Hid K))) := CallH.eq0 (eerr_spec e n) pure σ dst K
theorem eerr_callQ (e n : Int) (pure : Bool) (C : V → Prop) : CallQ Tryd.prog 24 [erD e, I .i64 n] pure (.mk : Hid C) = OrH ((pure || D.flat (Bo (decide (e = n)))) = true ∧ evK (V.d (Bo (decide (e = n)))) (.mk : Hid C)) (.mk : Hid (CallQ Tryd.prog 24 [erD e, I .i64 n] pure (.mk : Hid C))) := CallQ.eq0 (eerr_spec e n) pure C
end Go.Proofs

namespace Go.Proofs
open Go.Aw
set_option linter.unusedSimpArgs false
set_option maxRecDepth 10000
def pisE (n : Int) (l : List OrT) (a : List Bool) : Int := if ockE n l = 0 then (if (a.length : Int) = n then 0 else 3) else ockE n l
def pisB (n : Int) (l : List OrT) (a : List Bool) : Bool := decide (pisE n l a = 0) && rightB (clN l) a
theorem litB_K (a : List Bool) {x : Int} (b : Bool) (h : 0 ≤ x) : litB a (litK (x, b)) = !(a.getD x.toNat default == b) := by
  unfold litK litN litB
  cases b with
  | false =>
    simp (implicitDefEqProofs := false) (dsimp := false) only [show (false != false) = false from rfl, Bool.false_eq_true, if_false]
    rw [if_pos (by omega), show (2 * x).toNat / 2 = x.toNat by omega]
    cases a.getD x.toNat default <;> rfl
  | true =>
    simp (implicitDefEqProofs := false) (dsimp := false) only [show (true != false) = true from rfl, if_true]
    rw [if_neg (by omega), show (2 * x + 1).toNat / 2 = x.toNat by omega]
    cases a.getD x.toNat default <;> rfl
theorem right_snoc (l : List OrT) (o : OrT) (a : List Bool) : rightB (clN (l ++ [o])) a = (rightB (clN l) a && (litB a (litK o.1) || litB a (litK o.2))) := by simp [rightB, clN]
theorem pis_spec (n : Int) (l : List OrT) (a : List Bool) (hpre : l.length < 2 ^ 62 ∧ a.length < 2 ^ 62) : FnD Tryd.prog 48 [I .i64 n, .l (l.map orD), .l (a.map Bo)] (.t [Bo (pisB n l a), erD (pisE n l a)]) := by
  obtain ⟨hpre, ha62⟩ := hpre
  refine FnD.go Tryd.func48 rfl rfl Tryd.results48 Tryd.ntmps48 ?_
  simp (implicitDefEqProofs := false) (dsimp := false) only [↓aw_seq, ↓aw_reg, ↓Qseq_n, ↓ops_nil, ↓ops_cons, ↓eval_tmp, ↓eval_bool, ↓eval_func, ↓put_some, ↓op_move, ↓op_assign, ↓op_call, isD_d, ↓fnK_f, ↓call_H, ↓callK_H, ↓allT_nil, ↓allT_cons, ↓td_d, List.getD_cons_zero, List.getD_cons_succ, List.set_cons_zero, List.set_cons_succ, List.cons_append, List.nil_append, List.append_nil, List.map_cons, List.map_nil, List.length_cons, List.length_nil, List.all_cons, List.all_nil, Bool.and_self, Nat.reduceAdd, Nat.reduceSub, Nat.reduceMul, Nat.zero_add, List.replicate, evK_go, reduceIte, Nat.reduceEqDiff, Nat.reduceLT, and_self, Int.zero_add]
  simp (implicitDefEqProofs := false) (dsimp := false) only [ocheck_call, hpre, eval_nilI, ↓er_neq, er_flat, ↓cdK_not, ↓aw_cond, ↓aw_seq, ↓aw_reg, ↓Qseq_n, ↓ops_nil, ↓ops_cons, ↓eval_tmp, ↓put_some, ↓bK_b, ↓op_move, ↓op_assign, ↓op_bin, List.getD_cons_zero, List.getD_cons_succ, List.set_cons_zero, List.set_cons_succ, Bool.true_and, Bool.or_true, Nat.reduceAdd, Nat.reduceSub, Nat.reduceMul, evK_go, reduceIte, Nat.reduceEqDiff, Nat.reduceLT, true_and]
  (repeat refine OrH.l ?_)
  refine cdK_dec (fun hc => ?_) (fun hc => ?_)
  rotate_left
  · have e2 : pisE n l a = ockE n l := if_neg hc
    have e1 : pisB n l a = false := by unfold pisB; rw [e2, decide_eq_false hc]; rfl
    simp (implicitDefEqProofs := false) (dsimp := false) only [e1, e2, ↓aw_seq, ↓aw_ret, ↓aw_reg, ↓Qseq_n, ↓Qseq_r, ↓Qret_r, ↓ops_nil, ↓ops_cons, ↓eval_tmp, ↓eval_bool, ↓put_some, ↓op_move, ↓op_assign, ↓td_d, ↓ret_2, List.getD_cons_zero, List.getD_cons_succ, List.set_cons_zero, List.set_cons_succ, Nat.reduceAdd, Nat.reduceSub, Nat.reduceMul, evK_go, reduceIte, Nat.reduceEqDiff, Nat.reduceLT]
  obtain ⟨hn, hl, hin⟩ := ock_ok hc
  have e2 : pisE n l a = if (a.length : Int) = n then 0 else 3 := if_pos hc
  simp (implicitDefEqProofs := false) (dsimp := false) only [↓cdK_not, ↓aw_cond, ↓aw_seq, ↓aw_skip, ↓aw_reg, ↓Qseq_n, ↓ops_nil, ↓ops_cons, ↓eval_tmp, ↓put_some, ↓bK_b, ↓lenK_l, ↓binE_i, ↓bi_neq, ↓op_move, ↓op_bin, ↓op_len, ↓sl46, List.getD_cons_zero, List.getD_cons_succ, List.set_cons_zero, List.set_cons_succ, List.length_map, Nat.reduceAdd, Nat.reduceSub, Nat.reduceMul, evK_go, reduceIte, Nat.reduceEqDiff, Nat.reduceLT]
  refine cdK_dec (fun h2 => ?_) (fun h2 => ?_)
  rotate_left
  · have e3 : pisE n l a = 3 := by rw [e2, if_neg h2]
    have e1 : pisB n l a = false := by unfold pisB; rw [e3]; rfl
    simp (implicitDefEqProofs := false) (dsimp := false) only [e1, e3, ↓aw_seq, ↓aw_ret, ↓aw_reg, ↓Qseq_n, ↓Qseq_r, ↓Qret_r, ↓ops_nil, ↓ops_cons, ↓eval_tmp, ↓eval_int, ↓eval_bool, ↓put_some, ↓vK_c, ↓op_assign, ↓op_iface, ↓td_d, ↓ret_2, ↓nc108, List.getD_cons_zero, List.getD_cons_succ, List.set_cons_zero, List.set_cons_succ, Bool.true_and, Nat.reduceAdd, Nat.reduceSub, Nat.reduceMul, evK_go, reduceIte, Nat.reduceEqDiff, Nat.reduceLT, true_and]
    rfl
  have e3 : pisE n l a = 0 := by rw [e2, if_pos h2]
  have e1 : pisB n l a = rightB (clN l) a := by unfold pisB; rw [e3]; rfl
  rw [e1, e3]
  simp (implicitDefEqProofs := false) (dsimp := false) only [↓aw_seq, ↓aw_block, ↓aw_skip, ↓aw_loop, ↓aw_reg, ↓Qseq_n, ↓ops_nil, ↓ops_cons, ↓eval_tmp, ↓eval_int, ↓put_some, ↓lenK_l, ↓op_move, ↓op_len, ↓sl45, List.getD_cons_zero, List.getD_cons_succ, List.set_cons_zero, List.set_cons_succ, List.length_map, Nat.reduceAdd, Nat.reduceSub, Nat.reduceMul, evK_go, reduceIte, Nat.reduceEqDiff, Nat.reduceLT]
  refine loopW (fun k : Nat => { tm := slots 51 [(2, .d (.l (a.map Bo))), (22, .d (.l (l.map orD))), (23, .d (I .i64 l.length)), (24, .d (I .i64 k))], bx := [], rw := [] })
    (fun k => k ≤ l.length ∧ rightB (clN (l.take k)) a = true) (fun k => l.length - k) 0 ⟨by simp, rfl⟩ ?_ ?_
  · refine Wkn.of [] [] ?_; simp (implicitDefEqProofs := false) (dsimp := false) only [List.set_cons_zero, List.set_cons_succ, Bool.and_self, Nat.reduceAdd, Nat.reduceSub, Nat.reduceMul, List.replicate, evK_go, reduceIte, Nat.reduceEqDiff, Nat.reduceLT, and_self, List.foldl_cons, List.foldl_nil, Int.cast_ofNat_Int, slots, wkL_nil, wkL_cons, wkB_nil, wkR_nil, wkV_j, wkV_d, frz_d, reduceCtorEq]
  · rintro k ⟨hk, hr⟩
    simp (implicitDefEqProofs := false) (dsimp := false) only [slots, ↓aw_cond, ↓aw_seq, ↓aw_reg, ↓Qseq_n, ↓ops_nil, ↓ops_cons, ↓eval_tmp, ↓put_some, ↓bK_b, ↓binE_i, ↓bi_lss, ↓op_bin, List.getD_cons_zero, List.getD_cons_succ, List.set_cons_zero, List.set_cons_succ, Nat.reduceAdd, Nat.reduceSub, Nat.reduceMul, List.replicate, evK_go, reduceIte, Nat.reduceEqDiff, Nat.reduceLT, List.foldl_cons, List.foldl_nil, Int.ofNat_lt]
    refine cdK_dec (fun h => ?_) (fun h => ?_)
    · obtain ⟨o1, o2⟩ := hin _ (getD_mem h)
      have hs := right_snoc (l.take k) (l.getD k default) a
      rw [← take_succ_getD h, hr, Bool.true_and] at hs
      generalize hab : l.getD k default = o at o1 o2 hs
      obtain ⟨⟨x, b⟩, y, c⟩ := o
      simp only at o1 o2
      obtain ⟨x, rfl⟩ : ∃ x' : Nat, x = (x' : Int) := ⟨x.toNat, by omega⟩
      obtain ⟨y, rfl⟩ : ∃ y' : Nat, y = (y' : Int) := ⟨y.toNat, by omega⟩
      rw [litB_K a b (by omega), litB_K a c (by omega), Int.toNat_natCast, Int.toNat_natCast] at hs
      have hx : x < a.length := by omega
      have hy : y < a.length := by omega
      simp (implicitDefEqProofs := false) (dsimp := false) only [h, orD, hab, ↓bo_eql, ↓gdK_t, ↓gval_mk, ↓gvL_zero, ↓gvL_succ, ↓atK_H, ↓atH_map, ↓nthK_H, ↓nthH_zero, ↓nthH_succ, ↓aw_seq, ↓aw_block, ↓aw_skip, ↓aw_reg, ↓aw_draw, ↓Qseq_n, ↓ops_nil, ↓ops_cons, ↓eval_tmp, ↓put_some, ↓put_none, ↓iK_i, ↓ev_move, ↓ev_load, ↓ev_bin, ↓ev_fa, ↓ev_ia, ↓ldK_q, ↓ldK_p, ↓faK_p, ↓iaK_l, ↓op_load, ↓op_ia, ↓op_alloc, ↓op_store, ↓draw_H, ↓h_cons, ↓ldH_n, ↓ldH_g, ↓q_move, ↓q_load, ↓q_bin, ↓q_fa, ↓q_ia, ↓il_move, ↓il_load, ↓il_bin, ↓il_fa, ↓il_ia, ↓addBox_mk, ↓setBox_mk, ↓st_tm, ↓st_bx, ↓cells_c, ↓cells_s, ↓vcells_s, ↓one_i, ↓one_b, ↓vone_d, constV_a, ↓st_p, ↓hd_cons, ↓ty3, ↓ty4, ↓sl45, ↓sl46, ↓fd91_0, ↓fd91_1, ↓ty93, ↓zb93, ↓fd93_0, List.getD_cons_zero, List.getD_cons_succ, List.set_cons_zero, List.set_cons_succ, List.nil_append, List.map_cons, List.map_nil, List.length_cons, List.length_nil, List.all_cons, List.all_nil, Bool.true_and, Bool.and_self, Nat.reduceAdd, Nat.reduceSub, Nat.reduceMul, Nat.zero_add, Nat.add_zero, Int.toNat_natCast, evK_go, reduceIte, decide_true, Nat.reduceEqDiff, Nat.reduceLT, and_self, true_and, Int.zero_add, List.take_succ_cons, List.take_nil, Int.natCast_nonneg]
      refine ⟨by decide, OrH.l ⟨DrawH.of follows_mixed (by kernel_rfl), hx, ?_⟩⟩
      cases h1 : (a.getD x default == b) with
      | false =>
        rw [h1, Bool.not_false, Bool.true_or] at hs
        simp (implicitDefEqProofs := false) (dsimp := false) only [↓cdK_false, ↓gdK_t, ↓gval_mk, ↓gvL_zero, ↓gvL_succ, ↓aw_cond, ↓aw_skip, ↓aw_reg, ↓Qseq_n, ↓Qblk_n, ↓ops_nil, ↓ops_cons, ↓eval_tmp, ↓eval_int, ↓eval_bool, ↓put_some, ↓bK_b, ↓ev_pick, ↓binE_i, ↓bi_add, ↓in_i64, ↓op_move, ↓op_bin, ↓h_nil, ↓h_cons, ↓ldH_n, ↓ldH_g, ↓q_pick, ↓il_pick, ↓il_load, ↓il_bin, ↓il_fa, ↓il_ia, ↓st_tm, List.getD_cons_zero, List.getD_cons_succ, List.set_cons_zero, List.set_cons_succ, Nat.reduceAdd, Nat.reduceSub, Nat.reduceMul, evK_go, reduceIte, Nat.reduceEqDiff, Nat.reduceLT]
        refine ⟨by omega, k + 1, ⟨by omega, hs⟩, by omega, ?_⟩
        refine Wkn.of [] [] ?_; simp (implicitDefEqProofs := false) (dsimp := false) only [List.set_cons_zero, List.set_cons_succ, Bool.and_self, Nat.reduceAdd, Nat.reduceSub, Nat.reduceMul, List.replicate, evK_go, reduceIte, Nat.reduceEqDiff, Nat.reduceLT, and_self, List.foldl_cons, List.foldl_nil, Int.cast_ofNat_Int, Int.natCast_add, slots, wkL_nil, wkL_cons, wkB_nil, wkR_nil, wkV_j, wkV_d, frz_d, reduceCtorEq]
      | true =>
        simp (implicitDefEqProofs := false) (dsimp := false) only [↓bo_eql, ↓cdK_true, ↓gdK_t, ↓gval_mk, ↓gvL_zero, ↓gvL_succ, ↓atK_H, ↓atH_map, ↓nthK_H, ↓nthH_zero, ↓nthH_succ, ↓aw_cond, ↓Qseq_n, ↓eval_tmp, ↓put_some, ↓bK_b, ↓iK_i, ↓ev_move, ↓ev_pick, ↓ev_load, ↓ev_bin, ↓ev_fa, ↓ev_ia, ↓ldK_q, ↓ldK_p, ↓faK_p, ↓iaK_l, ↓h_nil, ↓h_cons, ↓ldH_n, ↓ldH_g, ↓q_move, ↓q_pick, ↓q_load, ↓q_bin, ↓q_fa, ↓q_ia, ↓il_pick, ↓il_load, ↓il_bin, ↓il_fa, ↓il_ia, ↓st_tm, ↓cells_c, ↓vcells_s, ↓hd_cons, ↓ty3, ↓ty4, ↓sl46, ↓fd91_0, ↓fd91_1, ↓fd93_1, List.getD_cons_zero, List.getD_cons_succ, List.set_cons_zero, List.set_cons_succ, List.map_cons, List.map_nil, List.length_cons, List.length_nil, Bool.true_and, Nat.reduceAdd, Nat.reduceSub, Nat.reduceMul, Nat.zero_add, Nat.add_zero, Int.toNat_natCast, evK_go, reduceIte, Nat.reduceEqDiff, Nat.reduceLT, true_and, Int.zero_add, Int.natCast_nonneg]
        refine ⟨hy, ?_⟩
        cases h2 : (a.getD y default == c) with
        | false =>
          rw [h2, Bool.not_false, Bool.or_true] at hs
          simp (implicitDefEqProofs := false) (dsimp := false) only [↓cdK_false, ↓aw_skip, ↓aw_reg, ↓Qseq_n, ↓Qblk_n, ↓ops_nil, ↓ops_cons, ↓eval_tmp, ↓eval_int, ↓put_some, ↓binE_i, ↓bi_add, ↓in_i64, ↓op_move, ↓op_bin, List.getD_cons_zero, List.getD_cons_succ, List.set_cons_zero, List.set_cons_succ, Nat.reduceAdd, Nat.reduceSub, Nat.reduceMul, evK_go, reduceIte, Nat.reduceEqDiff, Nat.reduceLT]
          refine ⟨by omega, k + 1, ⟨by omega, hs⟩, by omega, ?_⟩
          refine Wkn.of [] [] ?_; simp (implicitDefEqProofs := false) (dsimp := false) only [List.set_cons_zero, List.set_cons_succ, Bool.and_self, Nat.reduceAdd, Nat.reduceSub, Nat.reduceMul, List.replicate, evK_go, reduceIte, Nat.reduceEqDiff, Nat.reduceLT, and_self, List.foldl_cons, List.foldl_nil, Int.cast_ofNat_Int, Int.natCast_add, slots, wkL_nil, wkL_cons, wkB_nil, wkR_nil, wkV_j, wkV_d, frz_d, reduceCtorEq]
        | true =>
          rw [h1, h2] at hs
          have hno : rightB (clN l) a = false := by
            rw [← Bool.not_eq_true]
            intro hq
            have := right_sub (cl' := clN (l.take (k + 1))) (fun c hc => by
              obtain ⟨o, ho, rfl⟩ := List.mem_map.1 hc
              exact List.mem_map.2 ⟨o, List.mem_of_mem_take ho, rfl⟩) hq
            rw [this] at hs; cases hs
          simp (implicitDefEqProofs := false) (dsimp := false) only [hno, eval_nilI, ↓cdK_true, ↓aw_seq, ↓aw_ret, ↓aw_reg, ↓Qseq_n, ↓Qseq_r, ↓Qblk_r, ↓Qret_r, ↓ops_nil, ↓ops_cons, ↓eval_tmp, ↓eval_bool, ↓put_some, ↓op_assign, ↓td_d, ↓ret_2, List.getD_cons_zero, List.getD_cons_succ, List.set_cons_zero, List.set_cons_succ, Nat.reduceAdd, Nat.reduceSub, Nat.reduceMul, evK_go, reduceIte, Nat.reduceEqDiff, Nat.reduceLT]
          rfl
    · obtain rfl : k = l.length := by omega
      rw [List.take_length] at hr
      simp (implicitDefEqProofs := false) (dsimp := false) only [hr, eval_nilI, ↓aw_seq, ↓aw_exit, ↓aw_ret, ↓aw_reg, ↓Qseq_n, ↓Qseq_x, ↓Qblk_x, ↓Qret_r, ↓ops_nil, ↓ops_cons, ↓eval_tmp, ↓eval_bool, ↓put_some, ↓op_assign, ↓td_d, ↓ret_2, List.getD_cons_zero, List.getD_cons_succ, List.set_cons_zero, List.set_cons_succ, Nat.reduceAdd, Nat.reduceSub, Nat.reduceMul, evK_go, reduceIte, decide_false, Nat.reduceEqDiff, Nat.reduceLT, Nat.lt_irrefl]
      rfl
theorem pis_call (n : Int) (l : List OrT) (a : List Bool) (pure : Bool) (σ : St) (dst : Option Tmp) (K : St → Prop) : CallH Tryd.prog 48 [I .i64 n, .l (l.map orD), .l (a.map Bo)] pure σ dst (.mk : Hid K) = OrH ((l.length < 2 ^ 62 ∧ a.length < 2 ^ 62) ∧ (pure || D.flat (.t [Bo (pisB n l a), erD (pisE n l a)])) = true ∧ evK (σ.put dst (.d (.t [Bo (pisB n l a), erD (pisE n l a)]))) (.mk : Hid K)) (.mk : Hid (CallH Tryd.prog 48 [I .i64 n, .l (l.map orD), .l (a.map Bo)] pure σ dst (.mk : Hid K))) := CallH.eq (pis_spec n l a) pure σ dst K
theorem pis_callQ (n : Int) (l : List OrT) (a : List Bool) (pure : Bool) (C : V → Prop) : CallQ Tryd.prog 48 [I .i64 n, .l (l.map orD), .l (a.map Bo)] pure (.mk : Hid C) = OrH ((l.length < 2 ^ 62 ∧ a.length < 2 ^ 62) ∧ (pure || D.flat (.t [Bo (pisB n l a), erD (pisE n l a)])) = true ∧ evK (V.d (.t [Bo (pisB n l a), erD (pisE n l a)])) (.mk : Hid C)) (.mk : Hid (CallQ Tryd.prog 48 [I .i64 n, .l (l.map orD), .l (a.map Bo)] pure (.mk : Hid C))) := CallQ.eq (pis_spec n l a) pure C
end Go.Proofs

namespace Go.Proofs
open Go.Aw
set_option linter.unusedSimpArgs false
set_option maxRecDepth 10000
theorem pf1_spec  : FnD Tryd.prog 36 [I .i64 2, .l [.s [I .i64 0, Bo false, I .i64 0, Bo false]]] (.t [.l [Bo true, Bo false], erD 0]) := by
  have h := psolve_spec 2 [((0, false), (0, false))] (by decide)
  rw [show solveR 2 [((0, false), (0, false))] = [true, false] by decide +kernel, show solveE 2 [((0, false), (0, false))] = 0 by decide +kernel] at h
  exact h
theorem pf1_call  (pure : Bool) (σ : St) (dst : Option Tmp) (K : St → Prop) : CallH Tryd.prog 36 [I .i64 2, .l [.s [I .i64 0, Bo false, I .i64 0, Bo false]]] pure σ dst (.mk : Hid K) = OrH ((pure || D.flat (.t [.l [Bo true, Bo false], erD 0])) = true ∧ evK (σ.put dst (.d (.t [.l [Bo true, Bo false], erD 0]))) (.mk : Hid K)) (.mk : Hid (CallH Tryd.prog 36 [I .i64 2, .l [.s [I .i64 0, Bo false, I .i64 0, Bo false]]] pure σ dst (.mk : Hid K))) := CallH.eq0 (pf1_spec ) pure σ dst K
theorem pf1_callQ  (pure : Bool) (C : V → Prop) : CallQ Tryd.prog 36 [I .i64 2, .l [.s [I .i64 0, Bo false, I .i64 0, Bo false]]] pure (.mk : Hid C) = OrH ((pure || D.flat (.t [.l [Bo true, Bo false], erD 0])) = true ∧ evK (V.d (.t [.l [Bo true, Bo false], erD 0])) (.mk : Hid C)) (.mk : Hid (CallQ Tryd.prog 36 [I .i64 2, .l [.s [I .i64 0, Bo false, I .i64 0, Bo false]]] pure (.mk : Hid C))) := CallQ.eq0 (pf1_spec ) pure C
theorem pf2_spec  : FnD Tryd.prog 36 [I .i64 1, .l [.s [I .i64 0, Bo false, I .i64 0, Bo false], .s [I .i64 0, Bo true, I .i64 0, Bo true]]] (.t [.l [], erD 5]) := by
  have h := psolve_spec 1 [((0, false), (0, false)), ((0, true), (0, true))] (by decide)
  rw [show solveR 1 [((0, false), (0, false)), ((0, true), (0, true))] = [] by decide +kernel, show solveE 1 [((0, false), (0, false)), ((0, true), (0, true))] = 5 by decide +kernel] at h
  exact h
theorem pf2_call  (pure : Bool) (σ : St) (dst : Option Tmp) (K : St → Prop) : CallH Tryd.prog 36 [I .i64 1, .l [.s [I .i64 0, Bo false, I .i64 0, Bo false], .s [I .i64 0, Bo true, I .i64 0, Bo true]]] pure σ dst (.mk : Hid K) = OrH ((pure || D.flat (.t [.l [], erD 5])) = true ∧ evK (σ.put dst (.d (.t [.l [], erD 5]))) (.mk : Hid K)) (.mk : Hid (CallH Tryd.prog 36 [I .i64 1, .l [.s [I .i64 0, Bo false, I .i64 0, Bo false], .s [I .i64 0, Bo true, I .i64 0, Bo true]]] pure σ dst (.mk : Hid K))) := CallH.eq0 (pf2_spec ) pure σ dst K
theorem pf2_callQ  (pure : Bool) (C : V → Prop) : CallQ Tryd.prog 36 [I .i64 1, .l [.s [I .i64 0, Bo false, I .i64 0, Bo false], .s [I .i64 0, Bo true, I .i64 0, Bo true]]] pure (.mk : Hid C) = OrH ((pure || D.flat (.t [.l [], erD 5])) = true ∧ evK (V.d (.t [.l [], erD 5])) (.mk : Hid C)) (.mk : Hid (CallQ Tryd.prog 36 [I .i64 1, .l [.s [I .i64 0, Bo false, I .i64 0, Bo false], .s [I .i64 0, Bo true, I .i64 0, Bo true]]] pure (.mk : Hid C))) := CallQ.eq0 (pf2_spec ) pure C
theorem pf3_spec  : FnD Tryd.prog 47 [.l [Bo true, Bo false], .l [Bo true, Bo false]] (Bo true) := by
  exact bools_spec [true, false] [true, false] (by decide)
theorem pf3_call  (pure : Bool) (σ : St) (dst : Option Tmp) (K : St → Prop) : CallH Tryd.prog 47 [.l [Bo true, Bo false], .l [Bo true, Bo false]] pure σ dst (.mk : Hid K) = OrH ((pure || D.flat (Bo true)) = true ∧ evK (σ.put dst (.d (Bo true))) (.mk : Hid K)) (.mk : Hid (CallH Tryd.prog 47 [.l [Bo true, Bo false], .l [Bo true, Bo false]] pure σ dst (.mk : Hid K))) := CallH.eq0 (pf3_spec ) pure σ dst K
theorem pf3_callQ  (pure : Bool) (C : V → Prop) : CallQ Tryd.prog 47 [.l [Bo true, Bo false], .l [Bo true, Bo false]] pure (.mk : Hid C) = OrH ((pure || D.flat (Bo true)) = true ∧ evK (V.d (Bo true)) (.mk : Hid C)) (.mk : Hid (CallQ Tryd.prog 47 [.l [Bo true, Bo false], .l [Bo true, Bo false]] pure (.mk : Hid C))) := CallQ.eq0 (pf3_spec ) pure C
theorem pairsfact_spec  : FnD Tryd.prog 35 [] (Bo true) := by
  refine FnD.go Tryd.func35 rfl rfl Tryd.results35 Tryd.ntmps35 ?_
  simp (implicitDefEqProofs := false) (dsimp := false) only [↓aw_seq, ↓aw_reg, ↓Qseq_n, ↓ops_nil, ↓ops_cons, ↓eval_tmp, ↓eval_int, ↓eval_bool, ↓eval_func, ↓put_some, ↓put_none, ↓dK_d, ↓sboxK_s, ↓ldK_p, ↓op_assign, ↓op_load, ↓op_build, ↓op_call, ↓op_alloc, ↓op_store, isD_d, ↓fnK_f, ↓call_H, ↓callK_H, ↓allT_nil, ↓allT_cons, ↓allD_nil, ↓allD_cons, ↓td_d, ↓addBox_mk, ↓setBox_mk, ↓st_bx, ↓cells_c, ↓cells_s, ↓vcells_s, ↓one_i, ↓one_b, ↓vone_d, constV_a, ↓st_p, ↓bs_, ↓op_bs, ↓bsL_f, ↓stored_mk, ↓sl_nil, ↓sl_cons, ↓sT_move, ↓sT_assign, ↓sT_load, ↓sT_extract, ↓sT_build, ↓sT_bs, ↓sT_call, ↓vsz_agg, ↓inO_1, ↓fm_nil, ↓fm_cons, ↓sl45, ↓ty91, ↓zb91, ↓bd91, ↓ty93, ↓zb93, ↓bd93, List.getD_cons_zero, List.getD_cons_succ, List.set_cons_zero, List.set_cons_succ, List.cons_append, List.nil_append, List.append_nil, List.map_cons, List.map_nil, List.length_cons, List.length_nil, List.all_cons, List.all_nil, Bool.and_true, Bool.true_and, Bool.and_self, Bool.or_false, Nat.reduceAdd, Nat.reduceSub, Nat.reduceMul, Nat.zero_add, List.replicate, evK_go, reduceIte, Nat.reduceEqDiff, Nat.reduceLT, and_self, true_and, and_true, Int.zero_add, List.drop_zero, List.take_succ_cons, List.take_nil]
  simp (implicitDefEqProofs := false) (dsimp := false) only [pf1_call, pf2_call, pf3_call, eerr_call, eval_nilI, ↓er_eql, ↓cdK_true, ↓gdK_t, ↓gval_mk, ↓gvL_zero, ↓gvL_succ, ↓nthK_H, ↓nthH_zero, ↓nthH_succ, ↓aw_seq, ↓aw_ret, ↓aw_reg, ↓Qseq_n, ↓Qret_r, ↓ops_nil, ↓ops_cons, ↓ops_guard, ↓eval_tmp, ↓eval_int, ↓eval_bool, ↓eval_func, ↓put_some, ↓bK_b, ↓dK_d, ↓tK_t, ↓sboxK_s, ↓ldK_p, ↓op_move, ↓op_assign, ↓op_pick, ↓op_load, ↓op_bin, ↓op_extract, ↓op_build, ↓op_call, ↓orH_T, isD_d, ↓fnK_f, ↓call_H, ↓callK_H, ↓allT_nil, ↓allT_cons, ↓allD_nil, ↓allD_cons, ↓td_d, ↓ret_1, ↓st_tm, ↓cells_c, ↓cells_s, ↓one_i, ↓one_b, ↓bs_, ↓op_bs, ↓bsL_f, ↓stored_mk, ↓sl_nil, ↓sl_cons, ↓sT_move, ↓sT_assign, ↓sT_pick, ↓sT_load, ↓sT_bin, ↓sT_extract, ↓sT_build, ↓sT_bs, ↓sT_call, ↓vsz_bool, ↓vsz_agg, ↓inO_2, ↓fm_nil, ↓fm_cons, ↓ty4, ↓zb4, ↓sl45, ↓sl46, ↓ty91, ↓ty93, ↓zb93, ↓bd93, List.getD_cons_zero, List.getD_cons_succ, List.set_cons_zero, List.set_cons_succ, List.cons_append, List.nil_append, List.append_nil, List.map_cons, List.map_nil, List.length_cons, List.length_nil, List.all_cons, List.all_nil, Bool.and_true, Bool.true_and, Bool.and_self, Bool.true_or, Bool.or_false, Nat.reduceAdd, Nat.reduceSub, Nat.reduceMul, Nat.zero_add, evK_go, reduceIte, decide_true, Nat.reduceEqDiff, Nat.reduceLT, and_self, true_and, and_true, Int.zero_add, List.drop_zero, List.take_succ_cons, List.take_nil]
  (repeat (first | refine OrH.l ?_ | refine ⟨⟨rfl, by decide⟩, ?_⟩ | refine ⟨by decide, ?_⟩ | refine ⟨by omega, ?_⟩ | exact ⟨rfl, by decide⟩ | decide))
theorem pairsfact_call  (pure : Bool) (σ : St) (dst : Option Tmp) (K : St → Prop) : CallH Tryd.prog 35 [] pure σ dst (.mk : Hid K) = OrH ((pure || D.flat (Bo true)) = true ∧ evK (σ.put dst (.d (Bo true))) (.mk : Hid K)) (.mk : Hid (CallH Tryd.prog 35 [] pure σ dst (.mk : Hid K))) := CallH.eq0 (pairsfact_spec ) pure σ dst K
theorem pairsfact_callQ  (pure : Bool) (C : V → Prop) : CallQ Tryd.prog 35 [] pure (.mk : Hid C) = OrH ((pure || D.flat (Bo true)) = true ∧ evK (V.d (Bo true)) (.mk : Hid C)) (.mk : Hid (CallQ Tryd.prog 35 [] pure (.mk : Hid C))) := CallQ.eq0 (pairsfact_spec ) pure C
/-- What an answer comes to. -/
theorem solve_ok {n : Int} {l : List OrT} (h : solveE n l = 0) : ockE n l = 0 ∧ ∃ o, solve n.toNat (clN l) = some o ∧ solveR n l = o ∧ o.length = n.toNat := by
  have h0 : ockE n l = 0 := by
    unfold solveE at h
    by_cases h0 : ockE n l = 0
    · exact h0
    · rw [if_neg h0] at h; exact absurd h h0
  obtain ⟨hn, _, hin⟩ := ock_ok h0
  have e1 : solveR n l = (solveO n l).getD [] := if_pos h0
  have e2 : solveE n l = if (solveO n l).isSome then 0 else 5 := if_pos h0
  rw [e2] at h
  cases hs : solveO n l with
  | none => rw [hs] at h; cases h
  | some o =>
    have h1 := solve_some (n := n.toNat) (by omega) (clN_good hin) hs
    exact ⟨h0, o, hs, by rw [e1, hs]; rfl, h1.1⟩
theorem solve_bad {n : Int} {l : List OrT} (h : ¬ solveE n l = 0) : solveR n l = [] := by
  unfold solveE at h
  unfold solveR
  split
  · rename_i h0
    rw [if_pos h0] at h
    cases hs : solveO n l with
    | none => rfl
    | some o => rw [hs] at h; exact absurd rfl h
  · rfl
theorem firstE_of {α : Type} {f : α → Int} {l : List α} (h : ∀ x ∈ l, f x = 0) : firstE f l = 0 := by
  induction l with
  | nil => rfl
  | cons x l ih =>
    simp (implicitDefEqProofs := false) (dsimp := false) only [firstE, h x (by simp), if_true]
    exact ih fun y hy => h y (by simp [hy])
theorem ock_sub {n : Int} {l l' : List OrT} (h : ockE n l = 0) (hl : l'.length ≤ l.length) (hs : ∀ o ∈ l', o ∈ l) : ockE n l' = 0 := by
  unfold ockE at h ⊢
  split at h
  · cases h
  rename_i h1
  rw [if_neg h1]
  split at h
  · cases h
  rw [if_neg (by omega)]
  exact firstE_of fun o ho => firstE_zero h o (hs o ho)
/-- With fewer ors: an answer still. -/
theorem solve_less {n : Int} {l l' : List OrT} (h : solveE n l = 0) (hl : l'.length ≤ l.length) (hs : ∀ o ∈ l', o ∈ l) : solveE n l' = 0 ∧ rightB (clN l') (solveR n l) = true := by
  obtain ⟨h0, o, ho, e1, _⟩ := solve_ok h
  obtain ⟨hn, _, hin⟩ := ock_ok h0
  have h0' := ock_sub h0 hl hs
  have hin' : OrsIn n.toNat l' := fun q hq => hin q (hs q hq)
  obtain ⟨o', h2, h3⟩ := solve_sub (n := n.toNat) (by omega) (clN_good hin) (clN_good hin') (fun c hc => by
    obtain ⟨q, hq, rfl⟩ := List.mem_map.1 hc
    exact List.mem_map.2 ⟨q, hs q hq, rfl⟩) ho
  refine ⟨?_, by rw [e1]; exact h3⟩
  unfold solveE solveO
  rw [if_pos h0', h2]; rfl
/-- Where a right answer first parts from ours it says yes. -/
theorem solve_first {n : Int} {l : List OrT} (h : solveE n l = 0) {a : List Bool} (ha : rightB (clN l) a = true) {i : Nat} (hi : i < n.toNat) (hp : ∀ j, j < i → a.getD j default = (solveR n l).getD j default) (hne : (solveR n l).getD i default ≠ a.getD i default) : a.getD i default = true := by
  obtain ⟨h0, o, ho, e1, _⟩ := solve_ok h
  obtain ⟨hn, _, hin⟩ := ock_ok h0
  rw [e1] at hp hne
  exact first_yes (n := n.toNat) (by omega) (clN_good hin) ho ha hi hp hne
end Go.Proofs

namespace Go.Proofs
open Go.Aw
set_option linter.unusedSimpArgs false
set_option maxRecDepth 10000
def strongR (n : Int) (l : List (Int × Int)) : List Nat := if chk n l = 0 then strongP n.toNat (natL l) else []
theorem sparts_spec (n : Int) (l : List (Int × Int)) (hpre : l.length < 2 ^ 62) : FnD Tryd.prog 58 [I .i64 n, .l (l.map lnD)] (.t [.l ((strongR n l).map nD), erD (chk n l)]) := by
  refine FnD.go Tryd.func58 rfl rfl Tryd.results58 Tryd.ntmps58 ?_
  simp (implicitDefEqProofs := false) (dsimp := false) only [↓aw_seq, ↓aw_reg, ↓Qseq_n, ↓ops_nil, ↓ops_cons, ↓eval_tmp, ↓eval_nil, ↓eval_func, ↓put_some, ↓op_move, ↓op_assign, ↓op_call, isD_d, ↓fnK_f, ↓call_H, ↓callK_H, ↓allT_nil, ↓allT_cons, ↓td_d, List.getD_cons_zero, List.getD_cons_succ, List.set_cons_zero, List.set_cons_succ, List.cons_append, List.nil_append, List.append_nil, List.map_cons, List.map_nil, List.length_cons, List.length_nil, List.all_cons, List.all_nil, Bool.and_self, Nat.reduceAdd, Nat.reduceSub, Nat.reduceMul, Nat.zero_add, List.replicate, evK_go, reduceIte, Nat.reduceEqDiff, Nat.reduceLT, and_self, Int.zero_add]
  simp (implicitDefEqProofs := false) (dsimp := false) only [gcheck_call, eval_nilI, ↓er_neq, er_flat, ↓cdK_not, ↓aw_cond, ↓aw_seq, ↓aw_reg, ↓Qseq_n, ↓ops_nil, ↓ops_cons, ↓eval_tmp, ↓put_some, ↓bK_b, ↓op_move, ↓op_assign, ↓op_bin, List.getD_cons_zero, List.getD_cons_succ, List.set_cons_zero, List.set_cons_succ, Bool.true_and, Bool.or_true, Nat.reduceAdd, Nat.reduceSub, Nat.reduceMul, evK_go, reduceIte, Nat.reduceEqDiff, Nat.reduceLT, true_and]
  refine OrH.l (OrH.l ⟨hpre, ?_⟩)
  refine cdK_dec (fun hc => ?_) (fun hc => ?_)
  rotate_left
  · simp (implicitDefEqProofs := false) (dsimp := false) only [strongR, hc, ↓aw_seq, ↓aw_ret, ↓aw_reg, ↓Qseq_n, ↓Qseq_r, ↓Qret_r, ↓ops_nil, ↓ops_cons, ↓eval_tmp, ↓eval_nil, ↓put_some, ↓op_move, ↓op_assign, ↓td_d, ↓td_nl, ↓ret_2, List.getD_cons_zero, List.getD_cons_succ, List.set_cons_zero, List.set_cons_succ, List.map_nil, Nat.reduceAdd, Nat.reduceSub, Nat.reduceMul, evK_go, reduceIte, decide_false, Bool.not_false, Nat.reduceEqDiff, Nat.reduceLT]
  have ok := chk_ok hc
  rw [show strongR n l = strongP n.toNat (natL l) from if_pos hc, lnD_nat ok.rng, hc]
  have hout := ok.out
  have hg := ok.good
  have h8 := ok.hi
  have h24 : (natL l).length ≤ 24 := by rw [natL_len]; exact ok.len
  have e0 := ok.n0
  clear ok hc hpre
  generalize n.toNat = m at *
  subst e0
  generalize natL l = L at *
  simp (implicitDefEqProofs := false) (dsimp := false) only [out_callD, hout, ↓aw_seq, ↓aw_block, ↓aw_skip, ↓aw_loop, ↓aw_reg, ↓Qseq_n, ↓ops_nil, ↓ops_cons, ↓eval_tmp, ↓eval_int, ↓eval_nil, ↓eval_func, ↓put_some, ↓lenK_l, ↓op_move, ↓op_assign, ↓op_len, ↓op_call, isD_d, ↓fnK_f, ↓call_H, ↓callK_H, ↓allT_nil, ↓allT_cons, ↓td_d, ↓sl22, List.getD_cons_zero, List.getD_cons_succ, List.set_cons_zero, List.set_cons_succ, List.append_nil, List.length_map, List.all_cons, List.all_nil, Bool.true_and, Bool.and_self, Bool.true_or, Nat.reduceAdd, Nat.reduceSub, Nat.reduceMul, evK_go, reduceIte, decide_true, Bool.not_true, Nat.reduceEqDiff, Nat.reduceLT, and_self, true_and]
  refine OrH.l (OrH.l ⟨hout.2.2, ?_⟩)
  refine loopW (fun k : Nat => { tm := slots 66 [(0, .d (I .i64 (m : Int))), (7, .d (.l ((outS m L).map U))), (8, .o 0 0 k), (24, .d (.l (L.map lnN))), (25, .d (I .i64 L.length)), (26, .d (I .i64 k))], bx := [], rw := [some ⟨2, ((L.take k).map flip).map lnN⟩] })
    (fun k => k ≤ L.length) (fun k => L.length - k) 0 (by simp) ?_ ?_
  · refine Wkn.of [] [none] ?_
    simp (implicitDefEqProofs := false) (dsimp := false) only [↓row_xs, List.set_cons_zero, List.set_cons_succ, List.map_nil, Bool.and_self, Nat.reduceAdd, Nat.reduceSub, Nat.reduceMul, List.replicate, evK_go, reduceIte, Nat.reduceEqDiff, Nat.reduceLT, and_self, List.take_zero, List.foldl_cons, List.foldl_nil, Int.cast_ofNat_Int, slots, wkL_nil, wkL_cons, wkB_nil, wkR_nil, wkR_new, wkV_j, wkV_d, nlK_nl, wkV_o, frz_d, oK_zn, reduceCtorEq]
  · intro k hk
    simp (implicitDefEqProofs := false) (dsimp := false) only [slots, ↓aw_cond, ↓aw_seq, ↓aw_reg, ↓Qseq_n, ↓ops_nil, ↓ops_cons, ↓eval_tmp, ↓put_some, ↓bK_b, ↓binE_i, ↓bi_lss, ↓op_bin, List.getD_cons_zero, List.getD_cons_succ, List.set_cons_zero, List.set_cons_succ, Nat.reduceAdd, Nat.reduceSub, Nat.reduceMul, List.replicate, evK_go, reduceIte, Nat.reduceEqDiff, Nat.reduceLT, List.foldl_cons, List.foldl_nil, Int.ofNat_lt]
    refine cdK_dec (fun h => ?_) (fun h => ?_)
    · simp (implicitDefEqProofs := false) (dsimp := false) only [h, lnN, ↓optK_some, ↓rwK_mk_, ↓atK_H, ↓atH_map, ↓nthK_H, ↓nthH_zero, ↓nthH_succ, ↓aw_seq, ↓aw_block, ↓aw_skip, ↓aw_reg, ↓Qseq_n, ↓Qblk_n, ↓ops_nil, ↓ops_cons, ↓eval_tmp, ↓eval_int, ↓put_some, ↓put_none, ↓iK_i, ↓dK_d, ↓binE_i, ↓bi_add, ↓in_i64, ↓ldK_q, ↓ldK_p, ↓faK_p, ↓iaK_l, ↓op_move, ↓op_assign, ↓op_load, ↓op_bin, ↓op_fa, ↓op_ia, ↓op_build, ↓op_append, ↓op_alloc, ↓op_store, ↓allD_nil, ↓allD_cons, ↓addBox_mk, ↓setBox_mk, ↓app_mk, ↓st_bx, ↓row_sz, ↓row_xs, kill_d, kill_j, kill_p, kill_o, ↓cells_c, ↓cells_s, ↓vcells_s, ↓one_i, ↓vone_d, constV_a, ↓st_p, ↓ap_, ↓ap_o, ↓src_l, ↓bs_, ↓op_bs, ↓bsL_f, ↓stored_mk, ↓sl_nil, ↓sl_cons, ↓sT_move, ↓sT_assign, ↓sT_load, ↓sT_fa, ↓sT_build, ↓sT_bs, ↓sT_call, ↓vsz_agg, ↓inO_1, ↓fm_nil, ↓fm_cons, ↓ty3, ↓sl22, ↓ty41, ↓zb41, ↓fd41_0, ↓fd41_1, ↓bd41, List.getD_cons_zero, List.getD_cons_succ, List.set_cons_zero, List.set_cons_succ, List.cons_append, List.nil_append, List.map_cons, List.map_nil, List.length_cons, List.length_nil, List.length_map, List.all_cons, List.all_nil, Bool.true_and, Bool.and_self, Bool.or_false, Nat.reduceAdd, Nat.reduceSub, Nat.reduceMul, Nat.zero_add, Nat.add_zero, Int.toNat_natCast, evK_go, reduceIte, decide_true, Nat.reduceEqDiff, Nat.reduceLT, and_self, true_and, Int.zero_add, List.drop_zero, List.take_succ_cons, List.take_nil, Int.natCast_nonneg]
      refine ⟨by decide, ⟨rfl, by decide⟩, rfl, ⟨fun _ => trivial, by simp; omega, by omega, by omega⟩, by omega, k + 1, by omega, by omega, ?_⟩
      refine Wkn.of [] [some 0] ?_
      simp (implicitDefEqProofs := false) (dsimp := false) only [take_succ_getD h, List.map_append, lnN, flip, List.getD_cons_zero, List.set_cons_zero, List.set_cons_succ, List.map_cons, List.map_nil, Bool.and_self, Nat.reduceAdd, Nat.reduceSub, Nat.reduceMul, List.replicate, evK_go, reduceIte, Nat.reduceEqDiff, Nat.reduceLT, and_self, List.foldl_cons, List.foldl_nil, Int.cast_ofNat_Int, Int.natCast_add, slots, wkL_nil, wkL_cons, wkB_nil, wkR_nil, wkR_some, wkV_j, wkV_d, wkV_o, frz_d, oK_zs, reduceCtorEq]
    · obtain rfl : k = L.length := by omega
      have e : List.take L.length (List.map lnN (List.map flip L)) = (L.map flip).map lnN := List.take_of_length_le (by simp)
      have hout2 : m ≤ 64 ∧ (L.map flip).length < 2 ^ 62 ∧ ∀ p ∈ L.map flip, p.1 < m ∧ p.2 < 64 := ⟨by omega, by simp; omega, fun p hp => by have := hg.flip p hp; omega⟩
      simp (implicitDefEqProofs := false) (dsimp := false) only [List.take_length, e, out_call, hout2, rflat_U, ↓optK_some, ↓rwK_mk_, ↓aw_seq, ↓aw_block, ↓aw_exit, ↓aw_loop, ↓aw_reg, ↓Qseq_n, ↓Qseq_x, ↓Qblk_x, ↓ops_nil, ↓ops_cons, ↓eval_tmp, ↓eval_int, ↓eval_nil, ↓eval_func, ↓put_some, ↓op_move, ↓op_assign, ↓op_call, isD_d, isD_o, ↓fnK_f, ↓call_H, ↓callK_H, ↓allT_nil, ↓allT_cons, ↓td_d, ↓td_o, ↓addRow_mk, ↓st_rw, ↓row_xs, List.getD_cons_zero, List.getD_cons_succ, List.set_cons_zero, List.set_cons_succ, List.cons_append, List.nil_append, List.append_nil, List.length_cons, List.length_nil, List.length_map, List.all_cons, List.all_nil, Bool.and_true, Bool.true_and, Bool.and_false, Bool.or_true, Nat.reduceAdd, Nat.reduceSub, Nat.reduceMul, Nat.zero_add, evK_go, reduceIte, decide_false, Nat.reduceEqDiff, Nat.reduceLT, true_and, and_true, Nat.lt_irrefl, Int.zero_add, List.drop_zero]
      refine OrH.l (OrH.l ⟨⟨hout.2.1, hout2.2.2⟩, ?_⟩)
      refine loopW (fun k : Nat => { tm := slots 66 [(0, .d (I .i64 (m : Int))), (7, .d (.l ((outS m L).map U))), (11, .d (.l ((outS m (L.map flip)).map U))), (12, .o 0 0 k), (42, .d (I .i64 (m : Int))), (43, .d (I .i64 k))], bx := [], rw := [some ⟨1, (((List.range m).take k).map (part m L)).map nD⟩] })
        (fun k => k ≤ m) (fun k => m - k) 0 (by simp) ?_ ?_
      · refine Wkn.of [] [none] ?_
        simp (implicitDefEqProofs := false) (dsimp := false) only [↓optK_some, ↓row_xs, ↓take_map, List.getD_cons_zero, List.getD_cons_succ, List.set_cons_zero, List.set_cons_succ, List.map_nil, Bool.and_self, Nat.reduceAdd, Nat.reduceSub, Nat.reduceMul, List.replicate, evK_go, reduceIte, Nat.reduceEqDiff, Nat.reduceLT, and_self, not_false_eq_true, List.drop_zero, List.take_zero, List.foldl_cons, List.foldl_nil, Int.cast_ofNat_Int, slots, wkL_nil, wkL_cons, wkB_nil, wkR_nil, wkR_new, wkV_j, wkV_d, nlK_nl, wkV_o, frz_d, frz_o, oK_zn, dl_eq, reduceCtorEq, List.mem_cons, List.not_mem_nil, or_self]
      · intro k hk
        simp (implicitDefEqProofs := false) (dsimp := false) only [slots, ↓aw_cond, ↓aw_seq, ↓aw_reg, ↓Qseq_n, ↓ops_nil, ↓ops_cons, ↓eval_tmp, ↓put_some, ↓bK_b, ↓binE_i, ↓bi_lss, ↓op_bin, List.getD_cons_zero, List.getD_cons_succ, List.set_cons_zero, List.set_cons_succ, Nat.reduceAdd, Nat.reduceSub, Nat.reduceMul, List.replicate, evK_go, reduceIte, Nat.reduceEqDiff, Nat.reduceLT, List.foldl_cons, List.foldl_nil, Int.ofNat_lt]
        refine cdK_dec (fun h => ?_) (fun h => ?_)
        · simp (implicitDefEqProofs := false) (dsimp := false) only [h, below_call, reach_call, list_callD, ↓optK_some, ↓rwK_mk_, ↓atK_H, ↓atH_map, ↓aw_seq, ↓aw_block, ↓aw_skip, ↓aw_reg, ↓Qseq_n, ↓Qblk_n, ↓ops_nil, ↓ops_cons, ↓eval_tmp, ↓eval_int, ↓eval_func, ↓put_some, ↓iK_i, ↓dK_d, ↓binE_i, ↓bi_add, ↓bi_and, ↓in_i64, ↓ldK_q, ↓iaK_l, ↓op_move, ↓op_assign, ↓op_load, ↓op_bin, ↓op_ia, ↓op_append, ↓op_call, isD_d, ↓fnK_f, ↓call_H, ↓callK_H, ↓allT_nil, ↓allT_cons, ↓allD_nil, ↓allD_cons, ↓td_d, ↓app_mk, ↓row_sz, ↓row_xs, kill_d, kill_j, kill_o, ↓cells_c, ↓one_i, ↓ap_, ↓ap_o, ↓src_l, ↓bs_, ↓op_bs, ↓bsL_f, ↓stored_mk, ↓sl_nil, ↓sl_cons, ↓sT_move, ↓sT_assign, ↓sT_load, ↓sT_ia, ↓sT_bs, ↓sT_call, ↓vsz_int, ↓inO_1, ↓fm_nil, ↓fm_cons, ↓hd_cons, ↓ty3, ↓zb3, ↓sl24, List.getD_cons_zero, List.getD_cons_succ, List.set_cons_zero, List.set_cons_succ, List.append_nil, List.map_cons, List.map_nil, List.length_cons, List.length_nil, List.length_map, List.all_cons, List.all_nil, Bool.true_and, Bool.and_self, Bool.true_or, Bool.or_false, Nat.reduceAdd, Nat.reduceSub, Nat.reduceMul, Nat.zero_add, Int.toNat_zero, evK_go, reduceIte, decide_true, Nat.reduceEqDiff, Nat.reduceLT, and_self, true_and, Int.zero_add, List.drop_zero]
          have h1 := outS_len m L
          have h2 := outS_len m (L.map flip)
          have h3 := both_lt (n := m) (by omega) hg h
          have hp := part_pts (n := m) (by omega) hg h
          have hpos : 0 < (pts (rs m L k &&& rs m (L.map flip) k)).length := List.length_pos_iff.2 hp
          have h4 : 2 ^ m - 1 < 2 ^ m := by have := Nat.one_le_two_pow (n := m); omega
          refine OrH.l (OrH.l ⟨by omega, OrH.l (OrH.l ⟨⟨by omega, by omega, by rw [h1]; exact h4, outS_lt' (by omega) hg⟩, OrH.l (OrH.l ⟨by omega, OrH.l (OrH.l ⟨⟨by omega, by omega, by rw [h2]; exact h4, outS_lt' (by omega) hg.flip⟩, ⟨h3.1, h3.2.1⟩, OrH.l (OrH.l ⟨h3.2.2, by omega, by rw [ptsI, List.length_map]; exact hpos, by decide, ⟨fun _ => trivial, by simp; omega, by omega, by omega⟩, by omega, k + 1, by omega, by omega, ?_⟩)⟩)⟩)⟩)⟩)
          refine Wkn.of [] [some 0] ?_
          have e1 : (ptsI (rs m L k &&& rs m (L.map flip) k)).getD 0 default = (part m L k : Int) := by
            unfold part low ptsI
            cases hpp : pts (rs m L k &&& rs m (L.map flip) k) with
            | nil => exact absurd hpp hp
            | cons x t => rfl
          unfold rs at e1
          have e2 : (List.range m).take (k + 1) = (List.range m).take k ++ [k] := by
            rw [take_succ_getD (by simpa using h), List.getD_eq_getElem?_getD, List.getElem?_range h]; rfl
          simp (implicitDefEqProofs := false) (dsimp := false) only [e1, e2, List.map_append, nD, List.getD_cons_zero, List.set_cons_zero, List.set_cons_succ, List.map_cons, List.map_nil, Bool.and_self, Nat.reduceAdd, Nat.reduceSub, Nat.reduceMul, List.replicate, evK_go, reduceIte, Nat.reduceEqDiff, Nat.reduceLT, and_self, List.foldl_cons, List.foldl_nil, Int.cast_ofNat_Int, Int.natCast_add, slots, wkL_nil, wkL_cons, wkB_nil, wkR_nil, wkR_some, wkV_j, wkV_d, wkV_o, frz_d, oK_zs, reduceCtorEq]
        · obtain rfl : k = m := by omega
          have e1 : (List.range k).take k = List.range k := List.take_of_length_le (by simp)
          have e2 : List.take k (List.map nD (List.map (part k L) (List.range k))) = (strongP k L).map nD := List.take_of_length_le (by simp)
          simp (implicitDefEqProofs := false) (dsimp := false) only [e1, e2, erD_0, eval_nilI, ↓optK_some, ↓rwK_mk_, ↓aw_seq, ↓aw_exit, ↓aw_ret, ↓aw_reg, ↓Qseq_n, ↓Qseq_x, ↓Qblk_x, ↓Qret_r, ↓ops_nil, ↓ops_cons, ↓eval_tmp, ↓put_some, ↓op_move, ↓op_assign, ↓td_d, ↓td_o, ↓ret_2, ↓row_xs, List.getD_cons_zero, List.getD_cons_succ, List.set_cons_zero, List.set_cons_succ, Nat.reduceAdd, Nat.reduceSub, Nat.reduceMul, evK_go, reduceIte, decide_false, Nat.reduceEqDiff, Nat.reduceLT, Nat.lt_irrefl, List.drop_zero]
end Go.Proofs

namespace Go.Proofs
open Go.Aw
set_option linter.unusedSimpArgs false
set_option maxRecDepth 10000
theorem spartsS_spec (n : Int) (l : List (Int × Int)) (hpre : l.length < 2 ^ 62) : FnD Tryd.prog 58 [I .i64 n, .l (l.map lnD)] (.t [.l ((strongR n l).map nD), erD (chk n l)]) := by
  exact sparts_spec n l hpre
theorem spartsS_call (n : Int) (l : List (Int × Int)) (pure : Bool) (σ : St) (dst : Option Tmp) (K : St → Prop) : CallH Tryd.prog 58 [I .i64 n, .l (l.map lnD)] pure σ dst (.mk : Hid K) = OrH ((l.length < 2 ^ 62) ∧ (pure || D.flat (.t [.l ((strongR n l).map nD), erD (chk n l)])) = true ∧ evK (σ.put dst (.d (.t [.l ((strongR n l).map nD), erD (chk n l)]))) (.mk : Hid K)) (.mk : Hid (CallH Tryd.prog 58 [I .i64 n, .l (l.map lnD)] pure σ dst (.mk : Hid K))) := CallH.eq (spartsS_spec n l) pure σ dst K
theorem spartsS_callQ (n : Int) (l : List (Int × Int)) (pure : Bool) (C : V → Prop) : CallQ Tryd.prog 58 [I .i64 n, .l (l.map lnD)] pure (.mk : Hid C) = OrH ((l.length < 2 ^ 62) ∧ (pure || D.flat (.t [.l ((strongR n l).map nD), erD (chk n l)])) = true ∧ evK (V.d (.t [.l ((strongR n l).map nD), erD (chk n l)])) (.mk : Hid C)) (.mk : Hid (CallQ Tryd.prog 58 [I .i64 n, .l (l.map lnD)] pure (.mk : Hid C))) := CallQ.eq (spartsS_spec n l) pure C
def foldO (n : Int) (l : List (Int × Int)) : List Nat := if chk n l = 0 then fOut n.toNat (natL l) else []
def foldL (n : Int) (l : List (Int × Int)) : List (Nat × Nat) := if chk n l = 0 then fLines n.toNat (natL l) else []
theorem cross_succ (out : List Nat) {l : List (Nat × Nat)} {k : Nat} (h : k < l.length) : crossL out (l.take (k + 1)) = crossL out (l.take k) ++ (if out.getD (l.getD k default).1 default ≠ out.getD (l.getD k default).2 default then [(out.getD (l.getD k default).1 default, out.getD (l.getD k default).2 default)] else []) := by
  unfold crossL
  rw [take_succ_getD h, List.map_append, List.filter_append]
  congr 1
  simp (implicitDefEqProofs := false) (dsimp := false) only [List.map_cons, List.map_nil, List.filter_cons, List.filter_nil]
  split <;> simp_all
theorem nD_get (s : List Nat) (i : Nat) : nD (s.getD i default) = nD (s.getD i default) := rfl
theorem fold_spec (n : Int) (l : List (Int × Int)) (hpre : l.length < 2 ^ 62) : FnD Tryd.prog 59 [I .i64 n, .l (l.map lnD)] (.t [.l ((foldO n l).map nD), .l ((foldL n l).map lnN), erD (chk n l)]) := by
  refine FnD.go Tryd.func59 rfl rfl Tryd.results59 Tryd.ntmps59 ?_
  simp (implicitDefEqProofs := false) (dsimp := false) only [↓aw_seq, ↓aw_reg, ↓Qseq_n, ↓ops_nil, ↓ops_cons, ↓eval_tmp, ↓eval_nil, ↓eval_func, ↓put_some, ↓op_move, ↓op_assign, ↓op_call, isD_d, ↓fnK_f, ↓call_H, ↓callK_H, ↓allT_nil, ↓allT_cons, ↓td_d, List.getD_cons_zero, List.getD_cons_succ, List.set_cons_zero, List.set_cons_succ, List.cons_append, List.nil_append, List.append_nil, List.map_cons, List.map_nil, List.length_cons, List.length_nil, List.all_cons, List.all_nil, Bool.and_self, Nat.reduceAdd, Nat.reduceSub, Nat.reduceMul, Nat.zero_add, List.replicate, evK_go, reduceIte, Nat.reduceEqDiff, Nat.reduceLT, and_self, Int.zero_add]
  simp (implicitDefEqProofs := false) (dsimp := false) only [spartsS_call, eval_nilI, ↓er_neq, ↓cdK_not, ↓nthK_H, ↓nthH_zero, ↓nthH_succ, ↓aw_cond, ↓aw_seq, ↓aw_reg, ↓Qseq_n, ↓ops_nil, ↓ops_cons, ↓eval_tmp, ↓put_some, ↓bK_b, ↓tK_t, ↓op_move, ↓op_assign, ↓op_bin, ↓op_extract, List.getD_cons_zero, List.getD_cons_succ, List.set_cons_zero, List.set_cons_succ, Bool.true_and, Bool.true_or, Nat.reduceAdd, Nat.reduceSub, Nat.reduceMul, evK_go, reduceIte, Nat.reduceEqDiff, Nat.reduceLT, true_and]
  refine OrH.l (OrH.l ⟨hpre, ?_⟩)
  refine cdK_dec (fun hc => ?_) (fun hc => ?_)
  rotate_left
  · simp (implicitDefEqProofs := false) (dsimp := false) only [foldO, foldL, hc, ↓aw_seq, ↓aw_ret, ↓aw_reg, ↓Qseq_n, ↓Qseq_r, ↓Qret_r, ↓ops_nil, ↓ops_cons, ↓eval_tmp, ↓eval_nil, ↓put_some, ↓op_move, ↓op_assign, ↓td_d, ↓td_nl, ↓ret_3, List.getD_cons_zero, List.getD_cons_succ, List.set_cons_zero, List.set_cons_succ, List.map_nil, Nat.reduceAdd, Nat.reduceSub, Nat.reduceMul, evK_go, reduceIte, decide_false, Bool.not_false, Nat.reduceEqDiff, Nat.reduceLT]
  have ok := chk_ok hc
  rw [show foldO n l = fOut n.toNat (natL l) from if_pos hc, show foldL n l = fLines n.toNat (natL l) from if_pos hc, show strongR n l = strongP n.toNat (natL l) from if_pos hc, lnD_nat ok.rng, hc]
  have hg := ok.good
  have h8 := ok.hi
  have e0 := ok.n0
  have h24 : (natL l).length ≤ 24 := by rw [natL_len]; exact ok.len
  clear ok hc hpre
  generalize n.toNat = m at *
  subst e0
  generalize natL l = L at *
  have hn : m ≤ 64 := by omega
  obtain ⟨P, hP⟩ : ∃ P, P = strongP m L := ⟨_, rfl⟩
  have hPl : P.length = m := by rw [hP]; simp [strongP]
  have hPlt : ∀ i, i < m → P.getD i default < m := fun i hi => by rw [hP]; exact P_lt hn hg hi
  rw [← hP]
  simp (implicitDefEqProofs := false) (dsimp := false) only [↓aw_seq, ↓aw_block, ↓aw_skip, ↓aw_loop, ↓aw_reg, ↓Qseq_n, ↓ops_nil, ↓ops_cons, ↓eval_tmp, ↓eval_int, ↓put_some, ↓iK_i, ↓dK_d, ↓lenK_l, ↓op_move, ↓op_assign, ↓op_len, ↓op_make, ↓addRow_mk, ↓st_rw, ↓cells_c, ↓one_i, constV_i, ↓mk_, ↓vsz_int, ↓ty3, ↓zb3, ↓sl24, List.getD_cons_zero, List.getD_cons_succ, List.set_cons_zero, List.set_cons_succ, List.nil_append, List.length_cons, List.length_nil, List.length_map, List.all_cons, List.all_nil, Bool.and_true, Bool.true_and, Bool.and_self, Nat.reduceAdd, Nat.reduceSub, Nat.reduceMul, Nat.zero_add, Int.toNat_natCast, evK_go, reduceIte, decide_true, Bool.not_true, Nat.reduceEqDiff, Nat.reduceLT, and_self, true_and, and_true, Int.zero_add, Int.natCast_nonneg]
  simp (implicitDefEqProofs := false) (dsimp := false) only [hPl]
  refine ⟨⟨by omega, by decide⟩, ?_⟩
  refine loopW (fun k : Nat => { tm := slots 120 [(0, .d (I .i64 (m : Int))), (1, .d (.l (L.map lnN))), (7, .d (.l (P.map nD))), (9, .o 0 0 m), (10, .d (I .i64 ((numS m P k).2 : Int))), (36, .d (.l (P.map nD))), (37, .d (I .i64 (m : Int))), (38, .d (I .i64 k))], bx := [], rw := [some ⟨1, (numS m P k).1.map nD⟩] })
    (fun k => k ≤ m) (fun k => m - k) 0 (by simp) ?_ ?_
  · refine Wkn.of [] [some 0] ?_
    simp (implicitDefEqProofs := false) (dsimp := false) only [numS, List.range_zero, List.foldl_nil, List.map_replicate, List.getD_cons_zero, List.set_cons_zero, List.set_cons_succ, Bool.and_true, Bool.true_and, Bool.and_self, Nat.reduceAdd, Nat.reduceSub, Nat.reduceMul, List.replicate, evK_go, reduceIte, Nat.reduceEqDiff, Nat.reduceLT, and_self, true_and, and_true, List.foldl_cons, List.foldl_nil, Int.cast_ofNat_Int, slots, wkL_nil, wkL_cons, wkB_nil, wkR_nil, wkR_some, wkV_j, wkV_d, wkV_o, frz_d, oK_zs, reduceCtorEq, Option.some.injEq]
    rfl
  · intro k hk
    obtain ⟨hn1, hn2, hn3⟩ := numS_spec m P k hk
    simp (implicitDefEqProofs := false) (dsimp := false) only [slots, ↓aw_cond, ↓aw_seq, ↓aw_reg, ↓Qseq_n, ↓ops_nil, ↓ops_cons, ↓eval_tmp, ↓put_some, ↓bK_b, ↓binE_i, ↓bi_lss, ↓op_bin, List.getD_cons_zero, List.getD_cons_succ, List.set_cons_zero, List.set_cons_succ, Nat.reduceAdd, Nat.reduceSub, Nat.reduceMul, List.replicate, evK_go, reduceIte, Nat.reduceEqDiff, Nat.reduceLT, List.foldl_cons, List.foldl_nil, Int.ofNat_lt]
    refine cdK_dec (fun h => ?_) (fun h => ?_)
    · have hkP : k < P.length := by omega
      have hrk := rank_le P k
      simp (implicitDefEqProofs := false) (dsimp := false) only [hkP, nD, ↓atK_H, ↓atH_map, ↓aw_cond, ↓aw_seq, ↓aw_block, ↓aw_skip, ↓aw_reg, ↓Qseq_n, ↓ops_nil, ↓ops_cons, ↓eval_tmp, ↓put_some, ↓bK_b, ↓iK_i, ↓binE_i, ↓bi_eql, ↓ldK_q, ↓iaK_l, ↓op_move, ↓op_assign, ↓op_load, ↓op_bin, ↓op_ia, ↓cells_c, ↓hd_cons, ↓ty3, ↓sl24, List.getD_cons_zero, List.getD_cons_succ, List.set_cons_zero, List.set_cons_succ, List.length_cons, List.length_nil, Bool.true_and, Nat.reduceAdd, Nat.reduceSub, Nat.reduceMul, Nat.zero_add, Int.toNat_natCast, evK_go, reduceIte, Nat.reduceEqDiff, Nat.reduceLT, true_and, Int.zero_add, Int.natCast_nonneg, Int.natCast_inj]
      refine cdK_dec (fun hr => ?_) (fun hr => ?_)
      · have hr' : isRoot P k = true := by simp (implicitDefEqProofs := false) (dsimp := false) only [isRoot, decide_eq_true_eq]; omega
        have hk1 : k < (numS m P k).1.length := by omega
        simp (implicitDefEqProofs := false) (dsimp := false) only [h, ↓optK_some, ↓rwK_mk_, ↓aw_seq, ↓aw_reg, ↓Qseq_n, ↓Qblk_n, ↓ops_nil, ↓ops_cons, ↓eval_tmp, ↓eval_int, ↓put_some, ↓put_none, ↓iK_i, ↓dK_d, ↓binE_i, ↓bi_add, ↓in_i64, ↓iaK_o, ↓op_move, ↓op_assign, ↓op_bin, ↓op_ia, ↓op_store, ↓setRow_mk, ↓row_sz, ↓row_xs, ↓cells_c, ↓one_i, ↓st_e, ↓ty3, ↓sl24, List.getD_cons_zero, List.getD_cons_succ, List.set_cons_zero, List.set_cons_succ, List.length_cons, List.length_nil, List.all_cons, List.all_nil, Bool.true_and, Bool.and_self, Nat.reduceAdd, Nat.reduceSub, Nat.reduceMul, Nat.zero_add, Int.toNat_natCast, evK_go, reduceIte, decide_true, Nat.reduceEqDiff, Nat.reduceLT, and_self, true_and, Int.zero_add, Int.ofNat_lt, Int.natCast_nonneg]
        refine ⟨by omega, by omega, k + 1, by omega, by omega, ?_⟩
        refine Wkn.of [] [some 0] ?_
        have e : numS m P (k + 1) = ((numS m P k).1.set k (numS m P k).2, (numS m P k).2 + 1) := by rw [numS_succ, numI, if_pos hr']
        simp (implicitDefEqProofs := false) (dsimp := false) only [e, List.map_set, nD, List.getD_cons_zero, List.set_cons_zero, List.set_cons_succ, Bool.and_self, Nat.reduceAdd, Nat.reduceSub, Nat.reduceMul, List.replicate, evK_go, reduceIte, Nat.reduceEqDiff, Nat.reduceLT, and_self, List.foldl_cons, List.foldl_nil, Int.cast_ofNat_Int, Int.natCast_add, slots, wkL_nil, wkL_cons, wkB_nil, wkR_nil, wkR_some, wkV_j, wkV_d, wkV_o, frz_d, oK_zs, reduceCtorEq]
      · have hr' : isRoot P k = false := by simp (implicitDefEqProofs := false) (dsimp := false) only [isRoot, decide_eq_false_iff_not]; omega
        simp (implicitDefEqProofs := false) (dsimp := false) only [↓aw_skip, ↓aw_reg, ↓Qseq_n, ↓Qblk_n, ↓ops_nil, ↓ops_cons, ↓eval_tmp, ↓eval_int, ↓put_some, ↓binE_i, ↓bi_add, ↓in_i64, ↓op_move, ↓op_bin, List.getD_cons_zero, List.getD_cons_succ, List.set_cons_zero, List.set_cons_succ, Nat.reduceAdd, Nat.reduceSub, Nat.reduceMul, evK_go, reduceIte, Nat.reduceEqDiff, Nat.reduceLT]
        refine ⟨by omega, k + 1, by omega, by omega, ?_⟩
        refine Wkn.of [] [some 0] ?_
        have e : numS m P (k + 1) = numS m P k := by rw [numS_succ, numI, if_neg (by rw [hr']; decide)]
        simp (implicitDefEqProofs := false) (dsimp := false) only [e, List.getD_cons_zero, List.set_cons_zero, List.set_cons_succ, Bool.and_self, Nat.reduceAdd, Nat.reduceSub, Nat.reduceMul, List.replicate, evK_go, reduceIte, Nat.reduceEqDiff, Nat.reduceLT, and_self, List.foldl_cons, List.foldl_nil, Int.cast_ofNat_Int, Int.natCast_add, slots, wkL_nil, wkL_cons, wkB_nil, wkR_nil, wkR_some, wkV_j, wkV_d, wkV_o, frz_d, oK_zs, reduceCtorEq]
    · obtain rfl : k = m := by omega
      simp (implicitDefEqProofs := false) (dsimp := false) only [↓aw_seq, ↓aw_block, ↓aw_exit, ↓aw_loop, ↓aw_reg, ↓Qseq_n, ↓Qseq_x, ↓Qblk_x, ↓ops_nil, ↓ops_cons, ↓eval_tmp, ↓eval_int, ↓put_some, ↓iK_i, ↓dK_d, ↓lenK_l, ↓op_move, ↓op_assign, ↓op_len, ↓op_make, ↓addRow_mk, ↓st_rw, ↓cells_c, ↓one_i, constV_i, ↓mk_, ↓vsz_int, ↓ty3, ↓zb3, ↓sl24, List.getD_cons_zero, List.getD_cons_succ, List.set_cons_zero, List.set_cons_succ, List.cons_append, List.nil_append, List.length_cons, List.length_nil, List.length_map, List.all_cons, List.all_nil, Bool.and_true, Bool.true_and, Bool.and_self, Nat.reduceAdd, Nat.reduceSub, Nat.reduceMul, Nat.zero_add, Int.toNat_natCast, evK_go, reduceIte, decide_false, Nat.reduceEqDiff, Nat.reduceLT, and_self, true_and, and_true, Nat.lt_irrefl, Int.zero_add, Int.natCast_nonneg]
      have hNl : (numS k P k).1.length = k := hn1
      have hMk : fMany k L = (numS k P k).2 := by rw [fMany, ← hP]
      have hMle := fMany_le (n := k) (l := L)
      have hOut : fOut k L = (List.range k).map fun i => (numS k P k).1.getD (P.getD i default) default := by rw [fOut, fOutP, ← hP]
      have hOl : (fOut k L).length = k := by rw [hOut]; simp
      have hOlt : ∀ i, i < k → (fOut k L).getD i default < fMany k L := fun i hi => fOut_lt hn hg hi
      have hcl := cross_lt hn hg
      rw [hMk] at hOlt hcl hMle
      refine ⟨⟨by omega, by decide⟩, ?_⟩
      refine loopW (fun q : Nat => { tm := slots 120 [(0, .d (I .i64 (k : Int))), (1, .d (.l (L.map lnN))), (9, .d (.l ((numS k P k).1.map nD))), (10, .d (I .i64 ((numS k P k).2 : Int))), (13, .o 0 0 k), (55, .d (.l (P.map nD))), (56, .d (I .i64 (k : Int))), (57, .d (I .i64 q))], bx := [], rw := [some ⟨1, ((List.range k).map fun i => if i < q then (numS k P k).1.getD (P.getD i default) default else 0).map nD⟩] })
        (fun q => q ≤ k) (fun q => k - q) 0 (by simp) ?_ ?_
      · refine Wkn.of [] [some 1] ?_
        have e2 : List.take k ((numS k P k).1.map nD) = (numS k P k).1.map nD := List.take_of_length_le (by simp [hNl])
        simp (implicitDefEqProofs := false) (dsimp := false) only [hPl, e2, part_zero, List.map_replicate, nD, ↓optK_some, ↓row_xs, List.getD_cons_zero, List.getD_cons_succ, List.set_cons_zero, List.set_cons_succ, Bool.and_self, Nat.reduceAdd, Nat.reduceSub, Nat.reduceMul, List.replicate, evK_go, reduceIte, Nat.reduceEqDiff, Nat.reduceLT, and_self, not_false_eq_true, List.drop_zero, List.foldl_cons, List.foldl_nil, Int.cast_ofNat_Int, slots, wkL_nil, wkL_cons, wkB_nil, wkR_nil, wkR_some, wkV_j, wkV_d, wkV_o, frz_d, frz_o, oK_zs, dl_eq, reduceCtorEq, List.mem_cons, List.not_mem_nil, or_self, Option.some.injEq]
      · intro q hq
        simp (implicitDefEqProofs := false) (dsimp := false) only [slots, ↓aw_cond, ↓aw_seq, ↓aw_reg, ↓Qseq_n, ↓ops_nil, ↓ops_cons, ↓eval_tmp, ↓put_some, ↓bK_b, ↓binE_i, ↓bi_lss, ↓op_bin, List.getD_cons_zero, List.getD_cons_succ, List.set_cons_zero, List.set_cons_succ, Nat.reduceAdd, Nat.reduceSub, Nat.reduceMul, List.replicate, evK_go, reduceIte, Nat.reduceEqDiff, Nat.reduceLT, List.foldl_cons, List.foldl_nil, Int.ofNat_lt]
        refine cdK_dec (fun h => ?_) (fun h => ?_)
        · have hqP : q < P.length := by omega
          have hPq := hPlt q h
          have hPN : P.getD q default < (numS k P k).1.length := by omega
          simp (implicitDefEqProofs := false) (dsimp := false) only [h, hqP, hPN, nD, ↓optK_some, ↓rwK_mk_, ↓atK_H, ↓atH_map, ↓aw_seq, ↓aw_block, ↓aw_skip, ↓aw_reg, ↓Qseq_n, ↓Qblk_n, ↓ops_nil, ↓ops_cons, ↓eval_tmp, ↓eval_int, ↓put_some, ↓put_none, ↓iK_i, ↓dK_d, ↓binE_i, ↓bi_add, ↓in_i64, ↓ldK_q, ↓iaK_l, ↓iaK_o, ↓op_move, ↓op_assign, ↓op_load, ↓op_bin, ↓op_ia, ↓op_store, ↓setRow_mk, ↓row_sz, ↓row_xs, ↓cells_c, ↓one_i, ↓st_e, ↓hd_cons, ↓ty3, ↓sl24, List.getD_cons_zero, List.getD_cons_succ, List.set_cons_zero, List.set_cons_succ, List.length_cons, List.length_nil, List.all_cons, List.all_nil, Bool.true_and, Bool.and_self, Nat.reduceAdd, Nat.reduceSub, Nat.reduceMul, Nat.zero_add, Int.toNat_natCast, evK_go, reduceIte, decide_true, Nat.reduceEqDiff, Nat.reduceLT, and_self, true_and, Int.zero_add, Int.ofNat_lt, Int.natCast_nonneg]
          refine ⟨by omega, q + 1, by omega, by omega, ?_⟩
          refine Wkn.of [] [some 0] ?_
          have e := part_set (fun i => (numS k P k).1.getD (P.getD i default) default) 0 h
          simp (implicitDefEqProofs := false) (dsimp := false) only [e, List.map_set, nD, List.getD_cons_zero, List.set_cons_zero, List.set_cons_succ, Bool.and_self, Nat.reduceAdd, Nat.reduceSub, Nat.reduceMul, List.replicate, evK_go, reduceIte, Nat.reduceEqDiff, Nat.reduceLT, and_self, List.foldl_cons, List.foldl_nil, Int.cast_ofNat_Int, Int.natCast_add, slots, wkL_nil, wkL_cons, wkB_nil, wkR_nil, wkR_some, wkV_j, wkV_d, wkV_o, frz_d, oK_zs, reduceCtorEq]
        · obtain rfl : q = k := by omega
          simp (implicitDefEqProofs := false) (dsimp := false) only [part_all, ← hOut, ↓aw_seq, ↓aw_block, ↓aw_exit, ↓aw_loop, ↓aw_reg, ↓Qseq_n, ↓Qseq_x, ↓Qblk_x, ↓ops_nil, ↓ops_cons, ↓eval_tmp, ↓eval_int, ↓put_some, ↓iK_i, ↓dK_d, ↓lenK_l, ↓op_move, ↓op_assign, ↓op_len, ↓op_make, ↓addRow_mk, ↓st_rw, ↓cells_c, ↓one_i, constV_i, ↓mk_, ↓vsz_int, ↓sl22, ↓sl99, ↓ty102, ↓zb102, List.getD_cons_zero, List.getD_cons_succ, List.set_cons_zero, List.set_cons_succ, List.cons_append, List.nil_append, List.length_cons, List.length_nil, List.length_map, List.all_cons, List.all_nil, Bool.and_true, Bool.true_and, Bool.and_self, Nat.reduceAdd, Nat.reduceSub, Nat.reduceMul, Nat.zero_add, Int.toNat_natCast, evK_go, reduceIte, decide_false, Nat.reduceEqDiff, Nat.reduceLT, and_self, true_and, and_true, Nat.lt_irrefl, Int.zero_add, Int.natCast_nonneg]
          generalize (numS q P q).1 = NUM at *
          generalize (numS q P q).2 = MANY at *
          generalize hO : fOut q L = O at *
          have eNext : fNext q L = outS MANY (crossL O L) := by rw [fNext, hO, hMk]
          have eLines : fLines q L = linesK (fNext q L) MANY := by rw [fLines, hMk]
          refine ⟨⟨by omega, by decide⟩, ?_⟩
          refine loopW (fun k : Nat => { tm := slots 120 [(10, .d (I .i64 (MANY : Int))), (13, .d (.l (O.map nD))), (16, .o 0 0 MANY), (72, .d (.l (L.map lnN))), (73, .d (I .i64 L.length)), (74, .d (I .i64 k))], bx := [], rw := [some ⟨1, (outS MANY (crossL O (L.take k))).map U⟩] })
            (fun k => k ≤ L.length) (fun k => L.length - k) 0 (by simp) ?_ ?_
          · refine Wkn.of [] [some 1] ?_
            have e2 : List.take q (O.map nD) = O.map nD := List.take_of_length_le (by simp [hOl])
            simp (implicitDefEqProofs := false) (dsimp := false) only [e2, crossL, outS, List.take_zero, List.filter_nil, List.map_replicate, ↓optK_some, ↓row_xs, List.getD_cons_zero, List.getD_cons_succ, List.set_cons_zero, List.set_cons_succ, List.map_nil, Bool.and_true, Bool.true_and, Bool.and_self, Nat.reduceAdd, Nat.reduceSub, Nat.reduceMul, List.replicate, evK_go, reduceIte, Nat.reduceEqDiff, Nat.reduceLT, and_self, true_and, and_true, ne_eq, not_false_eq_true, List.drop_zero, List.take_zero, List.foldl_cons, List.foldl_nil, Int.cast_ofNat_Int, slots, wkL_nil, wkL_cons, wkB_nil, wkR_nil, wkR_some, wkV_j, wkV_d, wkV_o, frz_d, frz_o, oK_zs, dl_eq, reduceCtorEq, List.mem_cons, List.not_mem_nil, or_self, Option.some.injEq]
            rfl
          · intro k hkL
            simp (implicitDefEqProofs := false) (dsimp := false) only [slots, ↓aw_cond, ↓aw_seq, ↓aw_reg, ↓Qseq_n, ↓ops_nil, ↓ops_cons, ↓eval_tmp, ↓put_some, ↓bK_b, ↓binE_i, ↓bi_lss, ↓op_bin, List.getD_cons_zero, List.getD_cons_succ, List.set_cons_zero, List.set_cons_succ, Nat.reduceAdd, Nat.reduceSub, Nat.reduceMul, List.replicate, evK_go, reduceIte, Nat.reduceEqDiff, Nat.reduceLT, List.foldl_cons, List.foldl_nil, Int.ofNat_lt]
            refine cdK_dec (fun hkl => ?_) (fun hkl => ?_)
            · obtain ⟨hA, hB⟩ := hg _ (getD_mem hkl)
              have hAO : (L.getD k default).1 < O.length := by omega
              have hBO : (L.getD k default).2 < O.length := by omega
              have hAv := hOlt _ hA
              have hBv := hOlt _ hB
              simp (implicitDefEqProofs := false) (dsimp := false) only [hkl, hAO, hBO, nD, lnN_cells, ↓cdK_not, ↓atK_H, ↓atH_map, ↓nthK_H, ↓nthH_zero, ↓nthH_succ, ↓aw_cond, ↓aw_seq, ↓aw_block, ↓aw_skip, ↓aw_reg, ↓aw_draw, ↓Qseq_n, ↓ops_nil, ↓ops_cons, ↓eval_tmp, ↓put_some, ↓put_none, ↓bK_b, ↓iK_i, ↓ev_move, ↓ev_assign, ↓ev_load, ↓ev_fa, ↓ev_ia, ↓binE_i, ↓bi_neq, ↓ldK_q, ↓ldK_p, ↓faK_p, ↓iaK_l, ↓op_move, ↓op_load, ↓op_bin, ↓op_ia, ↓op_alloc, ↓op_store, ↓draw_H, ↓h_nil, ↓h_cons, ↓ldH_n, ↓q_move, ↓q_assign, ↓q_load, ↓q_fa, ↓q_ia, ↓il_move, ↓il_assign, ↓il_load, ↓il_fa, ↓il_ia, ↓addBox_mk, ↓setBox_mk, ↓st_bx, ↓cells_c, ↓vcells_s, ↓one_i, ↓vone_d, constV_a, ↓st_p, ↓hd_cons, ↓ty3, ↓sl22, ↓sl24, ↓ty41, ↓zb41, ↓fd41_0, ↓fd41_1, List.getD_cons_zero, List.getD_cons_succ, List.set_cons_zero, List.set_cons_succ, List.nil_append, List.map_cons, List.map_nil, List.length_cons, List.length_nil, List.all_cons, List.all_nil, Bool.true_and, Bool.and_self, Nat.reduceAdd, Nat.reduceSub, Nat.reduceMul, Nat.zero_add, Nat.add_zero, Int.toNat_natCast, evK_go, reduceIte, decide_true, Nat.reduceEqDiff, Nat.reduceLT, and_self, true_and, Int.zero_add, List.take_succ_cons, List.take_nil, Int.natCast_nonneg, Int.natCast_inj]
              refine ⟨by decide, OrH.l ⟨DrawH.of follows_mixed (by kernel_rfl), ?_⟩⟩
              have hcs := cross_succ O hkl
              have hcsub : ∀ p ∈ crossL O (L.take k), p.1 < MANY ∧ p.2 < MANY := fun p hp => hcl p (by
                obtain ⟨x, hx, e⟩ := List.mem_map.1 (List.mem_filter.1 hp).1
                exact List.mem_filter.2 ⟨List.mem_map.2 ⟨x, List.mem_of_mem_take hx, e⟩, (List.mem_filter.1 hp).2⟩)
              have hnl := outS_len MANY (crossL O (L.take k))
              have hnt := outS_lt MANY (crossL O (L.take k)) (fun p hp => by have := hcsub p hp; omega)
              refine cdK_dec (fun hab => ?_) (fun hab => ?_)
              · simp (implicitDefEqProofs := false) (dsimp := false) only [↓aw_skip, ↓aw_reg, ↓Qseq_n, ↓Qblk_n, ↓ops_nil, ↓ops_cons, ↓eval_tmp, ↓eval_int, ↓put_some, ↓binE_i, ↓bi_add, ↓in_i64, ↓op_move, ↓op_bin, List.getD_cons_zero, List.getD_cons_succ, List.set_cons_zero, List.set_cons_succ, Nat.reduceAdd, Nat.reduceSub, Nat.reduceMul, evK_go, reduceIte, Nat.reduceEqDiff, Nat.reduceLT]
                refine ⟨by omega, k + 1, by omega, by omega, ?_⟩
                refine Wkn.of [] [some 0] ?_
                rw [if_neg (fun h => h (by omega)), List.append_nil] at hcs
                simp (implicitDefEqProofs := false) (dsimp := false) only [hcs, List.getD_cons_zero, List.set_cons_zero, List.set_cons_succ, Bool.and_self, Nat.reduceAdd, Nat.reduceSub, Nat.reduceMul, List.replicate, evK_go, reduceIte, Nat.reduceEqDiff, Nat.reduceLT, and_self, List.foldl_cons, List.foldl_nil, Int.cast_ofNat_Int, Int.natCast_add, slots, wkL_nil, wkL_cons, wkB_nil, wkR_nil, wkR_some, wkV_j, wkV_d, wkV_o, frz_d, oK_zs, reduceCtorEq]
              · rw [if_pos (fun h => hab (by omega))] at hcs
                have h1 : O.getD (L.getD k default).1 default < (outS MANY (crossL O (L.take k))).length := by omega
                have h2 := hnt _ (getD_mem h1)
                have h3 : O.getD (L.getD k default).2 default < 64 := by omega
                simp (implicitDefEqProofs := false) (dsimp := false) only [h1, h2, h3, hAv, with_call, ↓optK_some, ↓rwK_mk_, ↓atK_H, ↓atH_map, ↓nthK_H, ↓nthH_zero, ↓aw_reg, ↓Qseq_n, ↓Qblk_n, ↓ops_nil, ↓ops_cons, ↓eval_tmp, ↓eval_int, ↓eval_func, ↓put_some, ↓put_none, ↓iK_i, ↓dK_d, ↓binE_i, ↓bi_add, ↓in_i64, ↓ldK_e, ↓iaK_o, ↓op_move, ↓op_load, ↓op_bin, ↓op_ia, ↓op_call, ↓op_store, isD_d, ↓fnK_f, ↓call_H, ↓callK_H, ↓allT_nil, ↓allT_cons, ↓td_d, ↓setRow_mk, ↓row_sz, ↓row_xs, ↓cells_c, ↓one_i, ↓st_e, ↓sl99, ↓ty102, List.getD_cons_zero, List.getD_cons_succ, List.set_cons_zero, List.set_cons_succ, List.append_nil, List.length_cons, List.length_nil, List.all_cons, List.all_nil, Bool.true_and, Bool.and_self, Bool.true_or, Nat.reduceAdd, Nat.reduceSub, Nat.reduceMul, Nat.zero_add, Int.toNat_natCast, evK_go, reduceIte, Nat.reduceEqDiff, Nat.reduceLT, and_self, true_and, Int.zero_add, Int.ofNat_lt, Int.natCast_nonneg]
                refine OrH.l (OrH.l ⟨by omega, k + 1, by omega, by omega, ?_⟩)
                refine Wkn.of [] [some 0] ?_
                simp (implicitDefEqProofs := false) (dsimp := false) only [hcs, outS_snoc, outF, List.map_set, List.getD_cons_zero, List.set_cons_zero, List.set_cons_succ, Bool.and_self, Nat.reduceAdd, Nat.reduceSub, Nat.reduceMul, List.replicate, evK_go, reduceIte, Nat.reduceEqDiff, Nat.reduceLT, and_self, List.foldl_cons, List.foldl_nil, Int.cast_ofNat_Int, Int.natCast_add, slots, wkL_nil, wkL_cons, wkB_nil, wkR_nil, wkR_some, wkV_j, wkV_d, wkV_o, frz_d, oK_zs, reduceCtorEq]
            · obtain rfl : k = L.length := by omega
              have e3 : outS MANY (crossL O (L.take L.length)) = fNext q L := by rw [List.take_length, eNext]
              have hXl : (fNext q L).length = MANY := by rw [eNext, outS_len]
              have hXt : ∀ x ∈ fNext q L, x < 2 ^ 64 := by rw [eNext]; exact outS_lt MANY _ (fun p hp => by have := hcl p hp; omega)
              simp (implicitDefEqProofs := false) (dsimp := false) only [e3, ↓optK_some, ↓rwK_mk_, ↓aw_seq, ↓aw_block, ↓aw_exit, ↓aw_loop, ↓aw_reg, ↓Qseq_n, ↓Qseq_x, ↓Qblk_x, ↓ops_nil, ↓ops_cons, ↓eval_tmp, ↓eval_int, ↓put_some, ↓lenK_o, ↓op_move, ↓op_len, ↓op_alloc, ↓addBox_mk, ↓st_bx, constV_n, ↓zb22, ↓sl99, List.getD_cons_zero, List.getD_cons_succ, List.set_cons_zero, List.set_cons_succ, List.nil_append, List.length_nil, Nat.reduceAdd, Nat.reduceSub, Nat.reduceMul, evK_go, reduceIte, decide_false, Nat.reduceEqDiff, Nat.reduceLT, Nat.lt_irrefl]
              rw [eLines]
              generalize fNext q L = X at hXl hXt ⊢
              refine loopW (fun k : Nat => { tm := slots 120 [(13, .d (.l (O.map nD))), (21, .p 0 0), (101, .d (.l (X.map U))), (102, .d (I .i64 (MANY : Int))), (103, .d (I .i64 k))], bx := [.o 0 0 (linesK X k).length], rw := [some ⟨2, (linesK X k).map lnN⟩] })
                (fun k => k ≤ MANY) (fun k => MANY - k) 0 (by simp) ?_ ?_
              · refine Wkn.of [0] [none] ?_
                have e2 : List.take MANY (X.map U) = X.map U := List.take_of_length_le (by simp [hXl])
                simp (implicitDefEqProofs := false) (dsimp := false) only [e2, linesK, List.range_zero, List.flatMap_nil, ↓optK_some, ↓row_xs, ↓vcells_nl, ↓vcells_o, List.getD_cons_zero, List.set_cons_zero, List.set_cons_succ, List.map_nil, List.length_cons, List.length_nil, Bool.and_self, Nat.reduceAdd, Nat.reduceSub, Nat.reduceMul, Nat.zero_add, List.replicate, evK_go, reduceIte, Nat.reduceEqDiff, Nat.reduceLT, and_self, not_false_eq_true, Int.zero_add, List.drop_zero, List.foldl_cons, List.foldl_nil, Int.cast_ofNat_Int, slots, wkL_nil, wkL_cons, wkB_nil, wkB_cons, wkR_nil, wkR_new, wkV_j, wkV_d, nlK_nl, wkV_o, wkV_p, frz_d, frz_o, oK_zn, pK_z, dl_eq, reduceCtorEq, List.mem_cons, List.not_mem_nil, or_self]
              · intro k hkM
                simp (implicitDefEqProofs := false) (dsimp := false) only [slots, ↓aw_cond, ↓aw_seq, ↓aw_reg, ↓Qseq_n, ↓ops_nil, ↓ops_cons, ↓eval_tmp, ↓put_some, ↓bK_b, ↓binE_i, ↓bi_lss, ↓op_bin, List.getD_cons_zero, List.getD_cons_succ, List.set_cons_zero, List.set_cons_succ, Nat.reduceAdd, Nat.reduceSub, Nat.reduceMul, List.replicate, evK_go, reduceIte, Nat.reduceEqDiff, Nat.reduceLT, List.foldl_cons, List.foldl_nil, Int.ofNat_lt]
                refine cdK_dec (fun h => ?_) (fun h => ?_)
                · have hkX : k < X.length := by omega
                  have hlt := hXt _ (getD_mem hkX)
                  simp (implicitDefEqProofs := false) (dsimp := false) only [h, hkX, each_call, ↓atK_H, ↓atH_map, ↓aw_seq, ↓aw_block, ↓aw_skip, ↓aw_rng, ↓aw_reg, ↓Qseq_n, ↓ops_nil, ↓ops_cons, ↓eval_tmp, ↓eval_func, ↓put_some, ↓put_none, ↓iK_i, ↓ldK_q, ↓iaK_l, ↓op_move, ↓op_assign, ↓op_load, ↓op_ia, ↓op_call, ↓op_alloc, ↓op_store, isD_d, ↓fnK_f, ↓call_H, ↓callK_H, ↓allT_nil, ↓allT_cons, ↓td_d, ↓addBox_mk, ↓setBox_mk, ↓st_bx, ↓cells_c, ↓vcells_c, ↓one_i, ↓vone_d, constV_i, ↓st_p, ↓hd_cons, ↓ty3, ↓zb3, ↓sl99, ↓ty102, List.getD_cons_zero, List.getD_cons_succ, List.set_cons_zero, List.set_cons_succ, List.cons_append, List.nil_append, List.append_nil, List.length_cons, List.length_nil, List.all_cons, List.all_nil, Bool.true_and, Bool.and_self, Bool.true_or, Nat.reduceAdd, Nat.reduceSub, Nat.reduceMul, Nat.zero_add, Int.toNat_natCast, evK_go, reduceIte, decide_true, Nat.reduceEqDiff, Nat.reduceLT, and_self, true_and, Int.zero_add, Int.natCast_nonneg]
                  refine OrH.l (OrH.l ?_)
                  have hKl : (linesK X k).length ≤ k * 64 := by
                    clear hkX hlt h hkM
                    induction k with
                    | zero => simp [linesK]
                    | succ k ih => rw [linesK_succ, List.length_append, List.length_map]; have := pts_len (X.getD k default); omega
                  refine rangeW (slots 120 [(13, .d (.l (O.map nD))), (21, .p 0 0), (22, .p 1 0), (101, .d (.l (X.map U))), (102, .d (I .i64 (MANY : Int))), (103, .d (I .i64 (k : Int))), (109, .d (.f (.func 111) [.q [U (X.getD k default)]]))])
                    (fun P : List Nat => [.o 0 0 ((linesK X k).length + P.length), .d (I .i64 (k : Int))]) (fun P => [some ⟨2, (linesK X k ++ P.map fun j => (k, j)).map lnN⟩]) (fun ys P => ys = P.map Int.ofNat) []
                    (by simp [slots]) (each_iter _ hlt) ?_ rfl ?_ ?_ ?_
                  · simp (implicitDefEqProofs := false) (dsimp := false) only [slots, ↓eval_tmp, List.getD_cons_zero, List.getD_cons_succ, List.set_cons_zero, List.set_cons_succ, Nat.reduceAdd, Nat.reduceSub, Nat.reduceMul, List.replicate, evK_go, reduceIte, Nat.reduceEqDiff, Nat.reduceLT, List.foldl_cons, List.foldl_nil]
                  · refine Wkn.of [0, 1] [some 0] ?_
                    simp (implicitDefEqProofs := false) (dsimp := false) only [↓vcells_c, ↓vcells_o, List.getD_cons_zero, List.getD_cons_succ, List.set_cons_zero, List.set_cons_succ, List.append_nil, List.map_nil, List.length_cons, List.length_nil, Bool.and_self, Nat.reduceAdd, Nat.reduceSub, Nat.reduceMul, Nat.zero_add, Nat.add_zero, List.replicate, evK_go, reduceIte, Nat.reduceEqDiff, Nat.reduceLT, and_self, Int.zero_add, List.foldl_cons, List.foldl_nil, slots, wkL_nil, wkL_cons, wkB_nil, wkB_cons, wkR_nil, wkR_some, wkV_j, wkV_d, wkV_o, wkV_p, frz_d, oK_zs, pK_z, pK_s, reduceCtorEq]
                  · rintro ys x P hpx rfl
                    obtain ⟨P', c, hP, rfl, hcc⟩ := prefix_map hpx
                    obtain rfl : P = P' := ofNat_inj hP
                    have h2 := hcc.length_le
                    have h3 := pts_len (X.getD k default)
                    simp (implicitDefEqProofs := false) (dsimp := false) only [List.length_append, List.length_cons, List.length_nil] at h2
                    simp (implicitDefEqProofs := false) (dsimp := false) only [slots, List.length_append, List.length_map, ↓optK_some, ↓rwK_mk_, ↓nthK_H, ↓nthH_zero, ↓aw_block, ↓aw_reg, ↓Qblk_n, ↓ops_nil, ↓ops_cons, ↓eval_tmp, ↓put_some, ↓put_none, ↓dK_d, ↓ldK_p, ↓op_move, ↓op_assign, ↓op_load, ↓op_build, ↓op_append, ↓op_store, ↓allD_nil, ↓allD_cons, ↓setBox_mk, ↓app_mk, ↓st_bx, ↓row_sz, ↓row_xs, kill_d, kill_j, kill_p, kill_o, ↓cells_c, ↓cells_s, ↓vcells_c, ↓vcells_j, ↓vcells_o, ↓one_i, ↓vone_o, ↓st_p, ↓ap_, ↓ap_o, ↓src_l, ↓bs_, ↓op_bs, ↓bsL_f, ↓stored_mk, ↓sl_nil, ↓sl_cons, ↓st_store_t, ↓sT_move, ↓sT_load, ↓sT_build, ↓sT_bs, ↓sT_call, ↓beq_some, ↓vsz_agg, ↓inO_1, ↓fm_nil, ↓fm_cons, ↓Qn_n, ↓Qrd_n, ↓back_mk, ↓ty3, ↓ty22, ↓sl22, ↓ty41, ↓zb41, ↓bd41, List.getD_cons_zero, List.getD_cons_succ, List.set_cons_zero, List.set_cons_succ, List.cons_append, List.nil_append, List.map_cons, List.map_nil, List.length_cons, List.length_nil, List.length_map, List.all_cons, List.all_nil, Bool.true_and, Bool.and_self, Bool.or_false, Nat.reduceAdd, Nat.reduceSub, Nat.reduceMul, Nat.zero_add, List.replicate, evK_go, reduceIte, decide_false, Nat.reduceEqDiff, Nat.reduceLT, and_self, true_and, Int.zero_add, List.drop_zero, List.foldl_cons, List.foldl_nil]
                    refine ⟨by decide, rfl, ⟨fun _ => trivial, by omega, by omega⟩, P ++ [c], by simp, ?_⟩
                    refine Wkn.of [0, 1] [some 0] ?_
                    simp (implicitDefEqProofs := false) (dsimp := false) only [List.map_append, List.length_append, List.append_assoc, lnN, Nat.add_assoc, ↓vcells_c, ↓vcells_o, List.getD_cons_zero, List.getD_cons_succ, List.map_cons, List.map_nil, List.length_cons, List.length_nil, Bool.and_self, Nat.reduceAdd, Nat.reduceSub, Nat.reduceMul, Nat.zero_add, evK_go, reduceIte, Nat.reduceEqDiff, Nat.reduceLT, and_self, Int.zero_add, slots, wkL_nil, wkL_cons, wkB_nil, wkB_cons, wkR_nil, wkR_some, wkV_j, wkV_d, wkV_o, wkV_p, frz_d, oK_zs, pK_z, pK_s, reduceCtorEq]
                  · rintro P hP
                    obtain rfl : pts (X.getD k default) = P := ofNat_inj hP
                    simp (implicitDefEqProofs := false) (dsimp := false) only [slots, ↓aw_reg, ↓Qseq_n, ↓Qblk_n, ↓ops_nil, ↓ops_cons, ↓eval_tmp, ↓eval_int, ↓put_some, ↓binE_i, ↓bi_add, ↓in_i64, ↓op_move, ↓op_bin, List.getD_cons_zero, List.getD_cons_succ, List.set_cons_zero, List.set_cons_succ, Nat.reduceAdd, Nat.reduceSub, Nat.reduceMul, List.replicate, evK_go, reduceIte, Nat.reduceEqDiff, Nat.reduceLT, List.foldl_cons, List.foldl_nil]
                    refine ⟨by omega, k + 1, by omega, by omega, ?_⟩
                    refine Wkn.of [0] [some 0] ?_
                    simp (implicitDefEqProofs := false) (dsimp := false) only [linesK_succ, List.length_append, List.length_map, ↓vcells_o, List.getD_cons_zero, List.length_cons, List.length_nil, List.length_map, Bool.and_self, Nat.reduceAdd, Nat.reduceSub, Nat.reduceMul, Nat.zero_add, evK_go, reduceIte, Nat.reduceEqDiff, Nat.reduceLT, and_self, Int.zero_add, Int.cast_ofNat_Int, Int.natCast_add, slots, wkL_nil, wkL_cons, wkB_nil, wkB_cons, wkR_nil, wkR_some, wkV_j, wkV_d, wkV_o, wkV_p, frz_d, oK_zs, pK_z, reduceCtorEq]
                · obtain rfl : k = MANY := by omega
                  simp (implicitDefEqProofs := false) (dsimp := false) only [eval_nilI, ↓optK_some, ↓rwK_mk_, ↓nthK_H, ↓nthH_zero, ↓aw_seq, ↓aw_exit, ↓aw_ret, ↓aw_draw, ↓Qseq_n, ↓Qseq_x, ↓Qblk_x, ↓Qret_r, ↓eval_tmp, ↓put_some, ↓ev_move, ↓ev_assign, ↓ev_load, ↓ldK_p, ↓td_d, ↓td_o, ↓ret_3, ↓draw_H, ↓h_nil, ↓h_cons, ↓ldH_n, ↓q_move, ↓q_assign, ↓q_load, ↓il_move, ↓il_assign, ↓il_load, ↓row_xs, ↓vcells_o, ↓take_map, ↓ty22, List.getD_cons_zero, List.getD_cons_succ, List.set_cons_zero, List.set_cons_succ, Nat.reduceAdd, Nat.reduceSub, Nat.reduceMul, evK_go, reduceIte, decide_false, Nat.reduceEqDiff, Nat.reduceLT, Nat.lt_irrefl, List.drop_zero]
                  refine OrH.l ⟨DrawH.of follows_mixed (by kernel_rfl), ?_⟩
                  rfl
theorem fold_call (n : Int) (l : List (Int × Int)) (pure : Bool) (σ : St) (dst : Option Tmp) (K : St → Prop) : CallH Tryd.prog 59 [I .i64 n, .l (l.map lnD)] pure σ dst (.mk : Hid K) = OrH ((l.length < 2 ^ 62) ∧ (pure || D.flat (.t [.l ((foldO n l).map nD), .l ((foldL n l).map lnN), erD (chk n l)])) = true ∧ evK (σ.put dst (.d (.t [.l ((foldO n l).map nD), .l ((foldL n l).map lnN), erD (chk n l)]))) (.mk : Hid K)) (.mk : Hid (CallH Tryd.prog 59 [I .i64 n, .l (l.map lnD)] pure σ dst (.mk : Hid K))) := CallH.eq (fold_spec n l) pure σ dst K
theorem fold_callQ (n : Int) (l : List (Int × Int)) (pure : Bool) (C : V → Prop) : CallQ Tryd.prog 59 [I .i64 n, .l (l.map lnD)] pure (.mk : Hid C) = OrH ((l.length < 2 ^ 62) ∧ (pure || D.flat (.t [.l ((foldO n l).map nD), .l ((foldL n l).map lnN), erD (chk n l)])) = true ∧ evK (V.d (.t [.l ((foldO n l).map nD), .l ((foldL n l).map lnN), erD (chk n l)])) (.mk : Hid C)) (.mk : Hid (CallQ Tryd.prog 59 [I .i64 n, .l (l.map lnD)] pure (.mk : Hid C))) := CallQ.eq (fold_spec n l) pure C
end Go.Proofs

namespace Go.Proofs
open Go.Aw
set_option linter.unusedSimpArgs false
set_option maxRecDepth 10000
def sfL : List (Int × Int) := [(1, 2), (2, 1), (0, 1)]
theorem sf1_spec  : FnD Tryd.prog 58 [I .i64 3, .l [.s [I .i64 1, I .i64 2], .s [I .i64 2, I .i64 1], .s [I .i64 0, I .i64 1]]] (.t [.l [I .i64 0, I .i64 1, I .i64 1], erD 0]) := by
  have h := spartsS_spec 3 sfL (by decide)
  rw [show strongR 3 sfL = [0, 1, 1] by decide +kernel, show chk 3 sfL = 0 by decide +kernel] at h
  exact h
theorem sf1_call  (pure : Bool) (σ : St) (dst : Option Tmp) (K : St → Prop) : CallH Tryd.prog 58 [I .i64 3, .l [.s [I .i64 1, I .i64 2], .s [I .i64 2, I .i64 1], .s [I .i64 0, I .i64 1]]] pure σ dst (.mk : Hid K) = OrH ((pure || D.flat (.t [.l [I .i64 0, I .i64 1, I .i64 1], erD 0])) = true ∧ evK (σ.put dst (.d (.t [.l [I .i64 0, I .i64 1, I .i64 1], erD 0]))) (.mk : Hid K)) (.mk : Hid (CallH Tryd.prog 58 [I .i64 3, .l [.s [I .i64 1, I .i64 2], .s [I .i64 2, I .i64 1], .s [I .i64 0, I .i64 1]]] pure σ dst (.mk : Hid K))) := CallH.eq0 (sf1_spec ) pure σ dst K
theorem sf1_callQ  (pure : Bool) (C : V → Prop) : CallQ Tryd.prog 58 [I .i64 3, .l [.s [I .i64 1, I .i64 2], .s [I .i64 2, I .i64 1], .s [I .i64 0, I .i64 1]]] pure (.mk : Hid C) = OrH ((pure || D.flat (.t [.l [I .i64 0, I .i64 1, I .i64 1], erD 0])) = true ∧ evK (V.d (.t [.l [I .i64 0, I .i64 1, I .i64 1], erD 0])) (.mk : Hid C)) (.mk : Hid (CallQ Tryd.prog 58 [I .i64 3, .l [.s [I .i64 1, I .i64 2], .s [I .i64 2, I .i64 1], .s [I .i64 0, I .i64 1]]] pure (.mk : Hid C))) := CallQ.eq0 (sf1_spec ) pure C
theorem sf2_spec  : FnD Tryd.prog 59 [I .i64 3, .l [.s [I .i64 1, I .i64 2], .s [I .i64 2, I .i64 1], .s [I .i64 0, I .i64 1]]] (.t [.l [I .i64 0, I .i64 1, I .i64 1], .l [.s [I .i64 0, I .i64 1]], erD 0]) := by
  have h := fold_spec 3 sfL (by decide)
  rw [show foldO 3 sfL = [0, 1, 1] by decide +kernel, show foldL 3 sfL = [(0, 1)] by decide +kernel, show chk 3 sfL = 0 by decide +kernel] at h
  exact h
theorem sf2_call  (pure : Bool) (σ : St) (dst : Option Tmp) (K : St → Prop) : CallH Tryd.prog 59 [I .i64 3, .l [.s [I .i64 1, I .i64 2], .s [I .i64 2, I .i64 1], .s [I .i64 0, I .i64 1]]] pure σ dst (.mk : Hid K) = OrH ((pure || D.flat (.t [.l [I .i64 0, I .i64 1, I .i64 1], .l [.s [I .i64 0, I .i64 1]], erD 0])) = true ∧ evK (σ.put dst (.d (.t [.l [I .i64 0, I .i64 1, I .i64 1], .l [.s [I .i64 0, I .i64 1]], erD 0]))) (.mk : Hid K)) (.mk : Hid (CallH Tryd.prog 59 [I .i64 3, .l [.s [I .i64 1, I .i64 2], .s [I .i64 2, I .i64 1], .s [I .i64 0, I .i64 1]]] pure σ dst (.mk : Hid K))) := CallH.eq0 (sf2_spec ) pure σ dst K
theorem sf2_callQ  (pure : Bool) (C : V → Prop) : CallQ Tryd.prog 59 [I .i64 3, .l [.s [I .i64 1, I .i64 2], .s [I .i64 2, I .i64 1], .s [I .i64 0, I .i64 1]]] pure (.mk : Hid C) = OrH ((pure || D.flat (.t [.l [I .i64 0, I .i64 1, I .i64 1], .l [.s [I .i64 0, I .i64 1]], erD 0])) = true ∧ evK (V.d (.t [.l [I .i64 0, I .i64 1, I .i64 1], .l [.s [I .i64 0, I .i64 1]], erD 0])) (.mk : Hid C)) (.mk : Hid (CallQ Tryd.prog 59 [I .i64 3, .l [.s [I .i64 1, I .i64 2], .s [I .i64 2, I .i64 1], .s [I .i64 0, I .i64 1]]] pure (.mk : Hid C))) := CallQ.eq0 (sf2_spec ) pure C
theorem sf3_spec  : FnD Tryd.prog 25 [.l [I .i64 0, I .i64 1, I .i64 1], .l [I .i64 0, I .i64 1, I .i64 1]] (Bo true) := by
  have h := ints_spec [0, 1, 1] [0, 1, 1] (by decide)
  exact h
theorem sf3_call  (pure : Bool) (σ : St) (dst : Option Tmp) (K : St → Prop) : CallH Tryd.prog 25 [.l [I .i64 0, I .i64 1, I .i64 1], .l [I .i64 0, I .i64 1, I .i64 1]] pure σ dst (.mk : Hid K) = OrH ((pure || D.flat (Bo true)) = true ∧ evK (σ.put dst (.d (Bo true))) (.mk : Hid K)) (.mk : Hid (CallH Tryd.prog 25 [.l [I .i64 0, I .i64 1, I .i64 1], .l [I .i64 0, I .i64 1, I .i64 1]] pure σ dst (.mk : Hid K))) := CallH.eq0 (sf3_spec ) pure σ dst K
theorem sf3_callQ  (pure : Bool) (C : V → Prop) : CallQ Tryd.prog 25 [.l [I .i64 0, I .i64 1, I .i64 1], .l [I .i64 0, I .i64 1, I .i64 1]] pure (.mk : Hid C) = OrH ((pure || D.flat (Bo true)) = true ∧ evK (V.d (Bo true)) (.mk : Hid C)) (.mk : Hid (CallQ Tryd.prog 25 [.l [I .i64 0, I .i64 1, I .i64 1], .l [I .i64 0, I .i64 1, I .i64 1]] pure (.mk : Hid C))) := CallQ.eq0 (sf3_spec ) pure C
theorem sf4_spec  : FnD Tryd.prog 55 [.l [.s [I .i64 0, I .i64 1]], .l [.s [I .i64 0, I .i64 1]]] (Bo true) := by
  have h := elines_spec [(0, 1)] [(0, 1)] (by decide)
  exact h
theorem sf4_call  (pure : Bool) (σ : St) (dst : Option Tmp) (K : St → Prop) : CallH Tryd.prog 55 [.l [.s [I .i64 0, I .i64 1]], .l [.s [I .i64 0, I .i64 1]]] pure σ dst (.mk : Hid K) = OrH ((pure || D.flat (Bo true)) = true ∧ evK (σ.put dst (.d (Bo true))) (.mk : Hid K)) (.mk : Hid (CallH Tryd.prog 55 [.l [.s [I .i64 0, I .i64 1]], .l [.s [I .i64 0, I .i64 1]]] pure σ dst (.mk : Hid K))) := CallH.eq0 (sf4_spec ) pure σ dst K
theorem sf4_callQ  (pure : Bool) (C : V → Prop) : CallQ Tryd.prog 55 [.l [.s [I .i64 0, I .i64 1]], .l [.s [I .i64 0, I .i64 1]]] pure (.mk : Hid C) = OrH ((pure || D.flat (Bo true)) = true ∧ evK (V.d (Bo true)) (.mk : Hid C)) (.mk : Hid (CallQ Tryd.prog 55 [.l [.s [I .i64 0, I .i64 1]], .l [.s [I .i64 0, I .i64 1]]] pure (.mk : Hid C))) := CallQ.eq0 (sf4_spec ) pure C
end Go.Proofs

namespace Go.Proofs
open Go.Aw
set_option linter.unusedSimpArgs false
set_option maxRecDepth 10000
def flipI (p : Int × Int) : Int × Int := (p.2, p.1)
/-- Lines from the last one on, each the other way. -/
def backI (l : List (Int × Int)) : List (Int × Int) := l.reverse.map flipI
theorem rev_getD {l : List (Int × Int)} {k : Nat} (h : k < l.length) : l.reverse.getD k default = l.getD (l.length - 1 - k) default := by
  rw [List.getD_eq_getElem?_getD, List.getD_eq_getElem?_getD, List.getElem?_reverse h]
theorem back_spec (l : List (Int × Int)) (hpre : l.length < 2 ^ 43) : FnR Tryd.prog 32 [.l (l.map lnD)] 2 ((backI l).map lnD) := by
  refine FnR.go Tryd.func32 rfl rfl Tryd.results32 Tryd.ntmps32 ?_
  simp (implicitDefEqProofs := false) (dsimp := false) only [↓aw_seq, ↓aw_block, ↓aw_loop, ↓aw_reg, ↓Qseq_n, ↓ops_nil, ↓ops_cons, ↓eval_tmp, ↓eval_int, ↓eval_nil, ↓put_some, ↓lenK_l, ↓binE_i, ↓bi_sub, ↓in_i64, ↓op_move, ↓op_assign, ↓op_bin, ↓op_len, ↓sl22, List.getD_cons_zero, List.getD_cons_succ, List.set_cons_zero, List.set_cons_succ, List.cons_append, List.nil_append, List.map_cons, List.map_nil, List.length_cons, List.length_nil, List.length_map, Nat.reduceAdd, Nat.reduceSub, Nat.reduceMul, Nat.zero_add, List.replicate, evK_go, reduceIte, Nat.reduceEqDiff, Nat.reduceLT, Int.zero_add]
  refine ⟨by omega, ?_⟩
  refine loopW (fun k : Nat => { tm := slots 27 [(0, .d (.l (l.map lnD))), (3, .o 0 0 k), (4, .d (I .i64 ((l.length : Int) - 1 - k)))], bx := [], rw := [some ⟨2, ((l.reverse.take k).map flipI).map lnD⟩] })
    (fun k => k ≤ l.length) (fun k => l.length - k) 0 (by simp) ?_ ?_
  · refine Wkn.of [] [none] ?_
    simp (implicitDefEqProofs := false) (dsimp := false) only [↓row_xs, List.set_cons_zero, List.set_cons_succ, List.map_nil, Bool.and_true, Bool.true_and, Bool.and_self, Nat.reduceAdd, Nat.reduceSub, Nat.reduceMul, List.replicate, evK_go, reduceIte, Nat.reduceEqDiff, Nat.reduceLT, and_self, true_and, and_true, List.take_zero, List.foldl_cons, List.foldl_nil, Int.cast_ofNat_Int, slots, wkL_nil, wkL_cons, wkB_nil, wkR_nil, wkR_new, wkV_j, wkV_d, nlK_nl, wkV_o, frz_d, oK_zn, dc_eq, reduceCtorEq]
    simp
  · intro k hk
    simp (implicitDefEqProofs := false) (dsimp := false) only [slots, ↓aw_cond, ↓aw_seq, ↓aw_reg, ↓Qseq_n, ↓ops_nil, ↓ops_cons, ↓eval_tmp, ↓eval_int, ↓put_some, ↓bK_b, ↓binE_i, ↓bi_geq, ↓op_move, ↓op_bin, List.getD_cons_zero, List.getD_cons_succ, List.set_cons_zero, List.set_cons_succ, Nat.reduceAdd, Nat.reduceSub, Nat.reduceMul, List.replicate, evK_go, reduceIte, Nat.reduceEqDiff, Nat.reduceLT, List.foldl_cons, List.foldl_nil]
    refine cdK_dec (fun h => ?_) (fun h => ?_)
    · have hkl : k < l.length := by omega
      have e : ((l.length : Int) - 1 - k).toNat = l.length - 1 - k := by omega
      have h1 : l.length - 1 - k < l.length := by omega
      have h2 : (0 : Int) ≤ (l.length : Int) - 1 - k := by omega
      simp (implicitDefEqProofs := false) (dsimp := false) only [e, h1, h2, lnD_cells, ↓optK_some, ↓rwK_mk_, ↓atK_H, ↓atH_map, ↓aw_seq, ↓aw_block, ↓aw_skip, ↓aw_reg, ↓aw_draw, ↓Qseq_n, ↓Qblk_n, ↓ops_nil, ↓ops_cons, ↓eval_tmp, ↓eval_int, ↓put_some, ↓iK_i, ↓dK_d, ↓ev_move, ↓ev_load, ↓ev_fa, ↓ev_ia, ↓ev_build, ↓binE_i, ↓bi_sub, ↓in_i64, ↓ldK_q, ↓faK_q, ↓iaK_l, ↓op_move, ↓op_assign, ↓op_bin, ↓op_append, ↓allD_nil, ↓allD_cons, ↓draw_H, ↓h_cons, ↓ldH_t, ↓ldH_n, ↓q_bs, ↓q_move, ↓q_load, ↓q_fa, ↓q_ia, ↓q_build, ↓il_move, ↓il_load, ↓il_fa, ↓il_ia, ↓il_build, ↓il_bs, ↓il_append, ↓app_mk, ↓row_sz, ↓row_xs, kill_d, kill_j, kill_o, ↓cells_c, ↓cells_s, ↓one_i, ↓ap_, ↓ap_o, ↓src_l, ↓bs_, ↓vsz_agg, ↓inO_1, ↓fm_nil, ↓fm_cons, ↓hd_cons, ↓ty3, ↓sl22, ↓ty41, ↓zb41, ↓fd41_0, ↓fd41_1, ↓bd41, List.getD_cons_zero, List.getD_cons_succ, List.set_cons_zero, List.set_cons_succ, List.cons_append, List.nil_append, List.map_cons, List.map_nil, List.length_cons, List.length_nil, List.length_map, List.all_cons, List.all_nil, Bool.true_and, Bool.and_self, Nat.reduceAdd, Nat.reduceSub, Nat.reduceMul, Nat.zero_add, evK_go, reduceIte, decide_true, Nat.reduceEqDiff, Nat.reduceLT, and_self, true_and, Int.zero_add, List.drop_zero, List.drop_succ_cons]
      refine OrH.l ⟨DrawH.of follows_mixed (by kernel_rfl), ⟨rfl, by decide⟩, rfl, ⟨fun _ => trivial, by simp; omega, by omega, by omega⟩, by omega, k + 1, by omega, by omega, ?_⟩
      refine Wkn.of [] [some 0] ?_
      have hkr : k < l.reverse.length := by simpa using hkl
      have e5 : (l.length : Int) - 1 - k - 1 = (l.length : Int) - 1 - ((k + 1 : Nat) : Int) := by omega
      simp (implicitDefEqProofs := false) (dsimp := false) only [e5, take_succ_getD hkr, rev_getD hkl, List.map_append, lnD, flipI, List.getD_cons_zero, List.set_cons_zero, List.set_cons_succ, List.map_cons, List.map_nil, Bool.and_self, Nat.reduceAdd, Nat.reduceSub, Nat.reduceMul, List.replicate, evK_go, reduceIte, Nat.reduceEqDiff, Nat.reduceLT, and_self, List.foldl_cons, List.foldl_nil, Int.cast_ofNat_Int, Int.natCast_add, slots, wkL_nil, wkL_cons, wkB_nil, wkR_nil, wkR_some, wkV_j, wkV_d, wkV_o, frz_d, oK_zs, reduceCtorEq]
    · obtain rfl : k = l.length := by omega
      simp (implicitDefEqProofs := false) (dsimp := false) only [↓optK_some, ↓rwK_mk_, ↓aw_seq, ↓aw_exit, ↓aw_ret, ↓aw_reg, ↓Qseq_n, ↓Qseq_x, ↓Qblk_x, ↓ops_nil, ↓ops_cons, ↓eval_tmp, ↓put_some, ↓op_move, ↓op_assign, ↓row_sz, ↓row_xs, ↓Qrow_r, ↓rowK_o, List.getD_cons_zero, List.getD_cons_succ, List.set_cons_zero, List.set_cons_succ, Bool.true_and, Nat.reduceAdd, Nat.reduceSub, Nat.reduceMul, evK_go, reduceIte, Nat.reduceEqDiff, Nat.reduceLT, true_and]
      have e1 : List.take l.length l.reverse = l.reverse := List.take_of_length_le (by simp)
      rw [e1]
      exact List.take_of_length_le (by simp)
theorem back_call (l : List (Int × Int)) (pure : Bool) (σ : St) (dst : Option Tmp) (K : St → Prop) : CallH Tryd.prog 32 [.l (l.map lnD)] pure σ dst (.mk : Hid K) = OrH ((l.length < 2 ^ 43) ∧ (pure || Res.flat (.row 2 ((backI l).map lnD))) = true ∧ evK ((σ.addRow ⟨2, (backI l).map lnD⟩).put dst (.o σ.rw.length 0 (List.length ((backI l).map lnD)))) (.mk : Hid K)) (.mk : Hid (CallH Tryd.prog 32 [.l (l.map lnD)] pure σ dst (.mk : Hid K))) := CallH.eqR (fun h => back_spec l h) pure σ dst K
theorem back_callD (l : List (Int × Int)) (pure : Bool) (σ : St) (dst : Option Tmp) (K : St → Prop) : CallH Tryd.prog 32 [.l (l.map lnD)] pure σ dst (.mk : Hid K) = OrH ((l.length < 2 ^ 43) ∧ (pure || D.flat (.l ((backI l).map lnD))) = true ∧ evK (σ.put dst (.d (.l ((backI l).map lnD)))) (.mk : Hid K)) (.mk : Hid (CallH Tryd.prog 32 [.l (l.map lnD)] pure σ dst (.mk : Hid K))) := CallH.eq (fun h => ((fun h => back_spec l h) h).data) pure σ dst K
theorem back_callDQ (l : List (Int × Int)) (pure : Bool) (C : V → Prop) : CallQ Tryd.prog 32 [.l (l.map lnD)] pure (.mk : Hid C) = OrH ((l.length < 2 ^ 43) ∧ (pure || D.flat (.l ((backI l).map lnD))) = true ∧ evK (V.d (.l ((backI l).map lnD))) (.mk : Hid C)) (.mk : Hid (CallQ Tryd.prog 32 [.l (l.map lnD)] pure (.mk : Hid C))) := CallQ.eq (fun h => ((fun h => back_spec l h) h).data) pure C
end Go.Proofs

namespace Go.Proofs
open Go.Aw
set_option linter.unusedSimpArgs false
set_option maxRecDepth 10000
theorem nD_ints (s : List Nat) : s.map nD = (s.map Int.ofNat).map (I .i64) := by rw [List.map_map]; rfl
theorem intsN_spec (a b : List Nat) (hpre : a.length < 2 ^ 62) : FnD Tryd.prog 25 [.l (a.map nD), .l (b.map nD)] (Bo (decide (a = b))) := by
  have h := ints_spec (a.map Int.ofNat) (b.map Int.ofNat) (by simpa using hpre)
  rw [← nD_ints, ← nD_ints] at h
  have e : (decide (a.map Int.ofNat = b.map Int.ofNat)) = decide (a = b) := by
    by_cases hab : a = b
    · simp [hab]
    · simp (implicitDefEqProofs := false) (dsimp := false) only [hab, decide_false, decide_eq_false_iff_not]; exact fun e => hab (ofNat_inj e)
  rw [e] at h
  exact h
theorem intsN_call (a b : List Nat) (pure : Bool) (σ : St) (dst : Option Tmp) (K : St → Prop) : CallH Tryd.prog 25 [.l (a.map nD), .l (b.map nD)] pure σ dst (.mk : Hid K) = OrH ((a.length < 2 ^ 62) ∧ (pure || D.flat (Bo (decide (a = b)))) = true ∧ evK (σ.put dst (.d (Bo (decide (a = b))))) (.mk : Hid K)) (.mk : Hid (CallH Tryd.prog 25 [.l (a.map nD), .l (b.map nD)] pure σ dst (.mk : Hid K))) := CallH.eq (intsN_spec a b) pure σ dst K
theorem intsN_callQ (a b : List Nat) (pure : Bool) (C : V → Prop) : CallQ Tryd.prog 25 [.l (a.map nD), .l (b.map nD)] pure (.mk : Hid C) = OrH ((a.length < 2 ^ 62) ∧ (pure || D.flat (Bo (decide (a = b)))) = true ∧ evK (V.d (Bo (decide (a = b)))) (.mk : Hid C)) (.mk : Hid (CallQ Tryd.prog 25 [.l (a.map nD), .l (b.map nD)] pure (.mk : Hid C))) := CallQ.eq (intsN_spec a b) pure C
theorem firstErr_iff {f : Int × Int → Int} {l : List (Int × Int)} : firstErr f l = 0 ↔ ∀ p ∈ l, f p = 0 := by
  refine ⟨firstErr_zero, fun h => ?_⟩
  induction l with
  | nil => rfl
  | cons p l ih =>
    simp (implicitDefEqProofs := false) (dsimp := false) only [firstErr, h p (by simp), if_true]
    exact ih fun q hq => h q (by simp [hq])
theorem chk_iff {n : Int} {l : List (Int × Int)} : chk n l = 0 ↔ (1 ≤ n ∧ n ≤ 8) ∧ l.length ≤ 24 ∧ ∀ p ∈ l, lineErr n p = 0 := by
  unfold chk
  split
  · rename_i h
    have : ¬ (1 ≤ n ∧ n ≤ 8) := by simpa [inB] using h
    constructor
    · intro h; cases h
    · intro h; exact absurd h.1 this
  · rename_i h
    have : 1 ≤ n ∧ n ≤ 8 := by simpa [inB] using h
    split
    · constructor
      · intro h; cases h
      · intro h; omega
    · rw [firstErr_iff]
      constructor
      · intro h; exact ⟨this, by omega, h⟩
      · intro h; exact h.2.2
theorem lineErr_iff {n : Int} {p : Int × Int} : lineErr n p = 0 ↔ (0 ≤ p.1 ∧ p.1 ≤ n - 1) ∧ (0 ≤ p.2 ∧ p.2 ≤ n - 1) ∧ p.1 ≠ p.2 := by
  unfold lineErr
  split
  · rename_i h
    constructor
    · intro h; cases h
    · intro h2; simp [inB, h2] at h
  · rename_i h
    simp (implicitDefEqProofs := false) (dsimp := false) only [Bool.not_eq_false, Bool.and_eq_true, inB, decide_eq_true_eq] at h
    split
    · rename_i h3
      constructor
      · intro h; cases h
      · intro h2; exact absurd h3 h2.2.2
    · rename_i h3
      exact ⟨fun _ => ⟨h.1, h.2, h3⟩, fun _ => rfl⟩
theorem chk_back {n : Int} {l : List (Int × Int)} : chk n (backI l) = 0 ↔ chk n l = 0 := by
  rw [chk_iff, chk_iff]
  have hl : (backI l).length = l.length := by simp [backI]
  rw [hl]
  refine and_congr_right fun _ => and_congr_right fun _ => ?_
  constructor
  · intro h p hp
    have := h (flipI p) (List.mem_map.2 ⟨p, by simpa using hp, rfl⟩)
    rw [lineErr_iff] at this ⊢
    exact ⟨this.2.1, this.1, fun e => this.2.2 e.symm⟩
  · intro h p hp
    obtain ⟨q, hq, rfl⟩ := List.mem_map.1 hp
    have := h q (by simpa using hq)
    rw [lineErr_iff] at this ⊢
    exact ⟨this.2.1, this.1, fun e => this.2.2 e.symm⟩
theorem natL_back (l : List (Int × Int)) : natL (backI l) = backL (natL l) := by
  unfold natL backI backL
  rw [List.map_map, ← List.map_reverse, List.map_map]
  rfl
theorem strongR_back (n : Int) (l : List (Int × Int)) : strongR n (backI l) = strongR n l := by
  unfold strongR
  by_cases h : chk n l = 0
  · rw [if_pos h, if_pos (chk_back.2 h), natL_back]
    have ok := chk_ok h
    exact strong_turn (by have := ok.hi; omega) ok.good
  · rw [if_neg h, if_neg (fun h' => h (chk_back.1 h'))]
theorem strongR_len (n : Int) (l : List (Int × Int)) : 0 < (strongR n l).length ↔ chk n l = 0 := by
  unfold strongR
  by_cases h : chk n l = 0
  · rw [if_pos h]
    have := (chk_ok h).lo
    simp [strongP, h]; omega
  · rw [if_neg h]; simp [h]
theorem strongR_le (n : Int) (l : List (Int × Int)) : (strongR n l).length ≤ 8 := by
  unfold strongR
  split
  · rename_i h
    have := (chk_ok h).hi
    simp [strongP]; omega
  · simp
end Go.Proofs

namespace Go.Proofs
open Go.Aw
set_option linter.unusedSimpArgs false
set_option maxRecDepth 10000
theorem wOr_lt {s : List Nat} (h : ∀ j, s.getD j default < 2 ^ 64) (k j : Nat) : wOr s k j < 2 ^ 64 := by
  unfold wOr
  split
  · exact Nat.or_lt_two_pow (h j) (h k)
  · exact h j
theorem lt_getD {s : List Nat} (h : ∀ x ∈ s, x < 2 ^ 64) (j : Nat) : s.getD j default < 2 ^ 64 := by
  rw [List.getD_eq_getElem?_getD]
  cases hx : s[j]? with
  | none => decide
  | some y => exact h y (List.mem_of_getElem? hx)
theorem warS_lt {n : Nat} {l : List (Nat × Nat)} (hn : n ≤ 64) (hg : Good n l) (m : Nat) : (warS n (outS n l) m).length = n ∧ ∀ j, (warS n (outS n l) m).getD j default < 2 ^ 64 := by
  induction m with
  | zero => exact ⟨by simpa [warS] using outS_len n l, fun j => lt_getD (outS_lt' hn hg) j⟩
  | succ m ih =>
    have e : warS n (outS n l) (m + 1) = warK n (warS n (outS n l) m) m := range_foldl _ _ _
    rw [e]
    obtain ⟨h1, h2⟩ := warK_get n _ m ih.1
    exact ⟨h1, fun j => by rw [h2]; exact wOr_lt ih.2 m j⟩
theorem creach_spec (n : Nat) (l : List (Nat × Nat)) (hpre : n ≤ 64 ∧ l.length < 2 ^ 62 ∧ Good n l) : FnR Tryd.prog 98 [I .i64 (n : Int), .l (l.map lnN)] 1 ((war n l).map U) := by
  obtain ⟨hn, hl, hg⟩ := hpre
  have hout : n ≤ 64 ∧ l.length < 2 ^ 62 ∧ ∀ p ∈ l, p.1 < n ∧ p.2 < 64 := ⟨hn, hl, fun p hp => by have := hg p hp; omega⟩
  refine FnR.go Tryd.func98 rfl rfl Tryd.results98 Tryd.ntmps98 ?_
  simp (implicitDefEqProofs := false) (dsimp := false) only [↓aw_seq, ↓aw_reg, ↓Qseq_n, ↓ops_nil, ↓ops_cons, ↓eval_tmp, ↓eval_nil, ↓eval_func, ↓put_some, ↓op_move, ↓op_assign, ↓op_call, isD_d, ↓fnK_f, ↓call_H, ↓callK_H, ↓allT_nil, ↓allT_cons, ↓td_d, List.getD_cons_zero, List.getD_cons_succ, List.set_cons_zero, List.set_cons_succ, List.cons_append, List.nil_append, List.append_nil, List.map_cons, List.map_nil, List.length_cons, List.length_nil, List.all_cons, List.all_nil, Bool.and_self, Nat.reduceAdd, Nat.reduceSub, Nat.reduceMul, Nat.zero_add, List.replicate, evK_go, reduceIte, Nat.reduceEqDiff, Nat.reduceLT, and_self, Int.zero_add]
  simp (implicitDefEqProofs := false) (dsimp := false) only [out_call, rflat_U, ↓aw_seq, ↓aw_block, ↓aw_loop, ↓aw_reg, ↓Qseq_n, ↓ops_nil, ↓ops_cons, ↓eval_tmp, ↓eval_int, ↓put_some, ↓op_move, ↓op_assign, ↓addRow_mk, ↓st_rw, List.getD_cons_zero, List.getD_cons_succ, List.set_cons_zero, List.set_cons_succ, List.nil_append, List.length_nil, List.length_map, Bool.true_and, Bool.or_true, Nat.reduceAdd, Nat.reduceSub, Nat.reduceMul, evK_go, reduceIte, Nat.reduceEqDiff, Nat.reduceLT, true_and]
  refine OrH.l (OrH.l ⟨hout, ?_⟩)
  have h0 := outS_len n l
  simp (implicitDefEqProofs := false) (dsimp := false) only [h0]
  refine loopW (fun k : Nat => { tm := slots 38 [(0, .d (I .i64 (n : Int))), (5, .o 0 0 n), (11, .d (I .i64 (n : Int))), (12, .d (I .i64 k))], bx := [], rw := [some ⟨1, (warS n (outS n l) k).map U⟩] })
    (fun k => k ≤ n) (fun k => n - k) 0 (by simp) ?_ ?_
  · refine Wkn.of [] [some 0] ?_
    simp (implicitDefEqProofs := false) (dsimp := false) only [warS, List.getD_cons_zero, List.set_cons_zero, List.set_cons_succ, Bool.and_true, Bool.true_and, Bool.and_self, Nat.reduceAdd, Nat.reduceSub, Nat.reduceMul, List.replicate, evK_go, reduceIte, Nat.reduceEqDiff, Nat.reduceLT, and_self, true_and, and_true, List.foldl_cons, List.foldl_nil, Int.cast_ofNat_Int, slots, wkL_nil, wkL_cons, wkB_nil, wkR_nil, wkR_some, wkV_j, wkV_d, wkV_o, frz_d, oK_zs, reduceCtorEq, Option.some.injEq]
    rfl
  · intro k hk
    simp (implicitDefEqProofs := false) (dsimp := false) only [slots, ↓aw_cond, ↓aw_seq, ↓aw_reg, ↓Qseq_n, ↓ops_nil, ↓ops_cons, ↓eval_tmp, ↓put_some, ↓bK_b, ↓binE_i, ↓bi_lss, ↓op_bin, List.getD_cons_zero, List.getD_cons_succ, List.set_cons_zero, List.set_cons_succ, Nat.reduceAdd, Nat.reduceSub, Nat.reduceMul, List.replicate, evK_go, reduceIte, Nat.reduceEqDiff, Nat.reduceLT, List.foldl_cons, List.foldl_nil, Int.ofNat_lt]
    obtain ⟨hs1, hs2⟩ := warS_lt hn hg k
    refine cdK_dec (fun h => ?_) (fun h => ?_)
    · simp (implicitDefEqProofs := false) (dsimp := false) only [↓aw_seq, ↓aw_block, ↓aw_skip, ↓aw_loop, ↓aw_reg, ↓Qseq_n, ↓ops_nil, ↓ops_cons, ↓eval_tmp, ↓eval_int, ↓put_some, ↓op_move, ↓op_assign, List.getD_cons_zero, List.getD_cons_succ, List.set_cons_zero, List.set_cons_succ, Nat.reduceAdd, Nat.reduceSub, Nat.reduceMul, evK_go, reduceIte, Nat.reduceEqDiff, Nat.reduceLT]
      refine loopW (fun i : Nat => { tm := slots 38 [(0, .d (I .i64 (n : Int))), (5, .o 0 0 n), (6, .d (I .i64 k)), (11, .d (I .i64 (n : Int))), (12, .d (I .i64 k)), (15, .d (I .i64 (n : Int))), (16, .d (I .i64 i))], bx := [], rw := [some ⟨1, ((List.range i).foldl (warI k) (warS n (outS n l) k)).map U⟩] })
        (fun i => i ≤ n) (fun i => n - i) 0 (by simp) ?_ ?_
      · refine Wkn.of [] [some 0] ?_
        simp (implicitDefEqProofs := false) (dsimp := false) only [List.getD_cons_zero, List.set_cons_zero, List.set_cons_succ, Bool.and_true, Bool.true_and, Bool.and_self, Nat.reduceAdd, Nat.reduceSub, Nat.reduceMul, List.replicate, evK_go, reduceIte, Nat.reduceEqDiff, Nat.reduceLT, and_self, true_and, and_true, List.foldl_cons, List.foldl_nil, Int.cast_ofNat_Int, slots, wkL_nil, wkL_cons, wkB_nil, wkR_nil, wkR_some, wkV_j, wkV_d, wkV_o, frz_d, oK_zs, reduceCtorEq, Option.some.injEq]
        rfl
      · intro i hi
        simp (implicitDefEqProofs := false) (dsimp := false) only [slots, ↓aw_cond, ↓aw_seq, ↓aw_reg, ↓Qseq_n, ↓ops_nil, ↓ops_cons, ↓eval_tmp, ↓put_some, ↓bK_b, ↓binE_i, ↓bi_lss, ↓op_bin, List.getD_cons_zero, List.getD_cons_succ, List.set_cons_zero, List.set_cons_succ, Nat.reduceAdd, Nat.reduceSub, Nat.reduceMul, List.replicate, evK_go, reduceIte, Nat.reduceEqDiff, Nat.reduceLT, List.foldl_cons, List.foldl_nil, Int.ofNat_lt]
        obtain ⟨hi1, hi2⟩ := warIs_get k (warS n (outS n l) k) i (by omega)
        have ef := range_foldl (warI k) (warS n (outS n l) k) i
        refine cdK_dec (fun hin => ?_) (fun hin => ?_)
        · have hlt : ∀ j, ((List.range i).foldl (warI k) (warS n (outS n l) k)).getD j default < 2 ^ 64 := fun j => by
            rw [hi2]; split
            · exact wOr_lt hs2 k j
            · exact hs2 j
          generalize (List.range i).foldl (warI k) (warS n (outS n l) k) = s at hi1 hlt ef ⊢
          have hil : i < s.length := by omega
          have hkl : k < s.length := by omega
          have hlti := hlt i
          have hltk := hlt k
          simp (implicitDefEqProofs := false) (dsimp := false) only [hin, hil, hasS_call, hlti, ↓optK_some, ↓rwK_mk_, ↓atK_H, ↓atH_map, ↓nthK_H, ↓nthH_zero, ↓aw_cond, ↓aw_seq, ↓aw_block, ↓aw_skip, ↓aw_reg, ↓Qseq_n, ↓ops_nil, ↓ops_cons, ↓eval_tmp, ↓eval_func, ↓put_some, ↓bK_b, ↓iK_i, ↓ldK_e, ↓iaK_o, ↓op_move, ↓op_assign, ↓op_load, ↓op_ia, ↓op_call, isD_d, ↓fnK_f, ↓call_H, ↓callK_H, ↓allT_nil, ↓allT_cons, ↓td_d, ↓row_sz, ↓row_xs, ↓cells_c, ↓sl99, ↓ty102, List.getD_cons_zero, List.getD_cons_succ, List.set_cons_zero, List.set_cons_succ, List.append_nil, List.all_cons, List.all_nil, Bool.true_and, Bool.and_self, Bool.true_or, Nat.reduceAdd, Nat.reduceSub, Nat.reduceMul, Nat.zero_add, Int.toNat_natCast, evK_go, reduceIte, decide_true, Nat.reduceEqDiff, Nat.reduceLT, and_self, true_and, Int.zero_add, Int.ofNat_lt, Int.natCast_nonneg]
          refine OrH.l (OrH.l ⟨by omega, ?_⟩)
          refine cdK_split (fun hb => ?_) (fun hb => ?_)
          · simp (implicitDefEqProofs := false) (dsimp := false) only [hin, hil, hkl, hlti, hltk, h, ↓optK_some, ↓rwK_mk_, ↓atK_H, ↓atH_map, ↓nthK_H, ↓nthH_zero, ↓aw_reg, ↓aw_draw, ↓Qseq_n, ↓Qblk_n, ↓ops_nil, ↓ops_cons, ↓eval_tmp, ↓eval_int, ↓put_some, ↓put_none, ↓iK_i, ↓dK_d, ↓ev_move, ↓ev_load, ↓ev_bin, ↓ev_ia, ↓binE_i, ↓bi_add, ↓bi_or, ↓in_i64, ↓ldK_e, ↓iaK_o, ↓op_move, ↓op_bin, ↓op_store, ↓draw_H, ↓h_cons, ↓ldH_t, ↓ldH_n, ↓q_move, ↓q_load, ↓q_bin, ↓q_ia, ↓il_move, ↓il_load, ↓il_bin, ↓il_ia, ↓il_store, ↓setRow_mk, ↓row_sz, ↓row_xs, ↓cells_c, ↓one_i, ↓st_e, ↓sl99, ↓ty102, List.getD_cons_zero, List.getD_cons_succ, List.set_cons_zero, List.set_cons_succ, List.length_cons, List.length_nil, List.all_cons, List.all_nil, Bool.true_and, Bool.and_self, Nat.reduceAdd, Nat.reduceSub, Nat.reduceMul, Nat.zero_add, Int.toNat_natCast, evK_go, reduceIte, Nat.reduceEqDiff, Nat.reduceLT, and_self, true_and, Int.zero_add, Int.ofNat_lt, Int.natCast_nonneg]
            refine OrH.l ⟨DrawH.of follows_mixed (by kernel_rfl), ?_⟩
            refine ⟨by omega, i + 1, by omega, by omega, ?_⟩
            refine Wkn.of [] [some 0] ?_
            simp (implicitDefEqProofs := false) (dsimp := false) only [ef, warI, hb, if_true, List.map_set, List.getD_cons_zero, List.set_cons_zero, List.set_cons_succ, Bool.and_self, Nat.reduceAdd, Nat.reduceSub, Nat.reduceMul, List.replicate, evK_go, reduceIte, Nat.reduceEqDiff, Nat.reduceLT, and_self, List.foldl_cons, List.foldl_nil, Int.cast_ofNat_Int, Int.natCast_add, slots, wkL_nil, wkL_cons, wkB_nil, wkR_nil, wkR_some, wkV_j, wkV_d, wkV_o, frz_d, oK_zs, reduceCtorEq]
          · simp (implicitDefEqProofs := false) (dsimp := false) only [↓aw_skip, ↓aw_reg, ↓Qseq_n, ↓Qblk_n, ↓ops_nil, ↓ops_cons, ↓eval_tmp, ↓eval_int, ↓put_some, ↓binE_i, ↓bi_add, ↓in_i64, ↓op_move, ↓op_bin, List.getD_cons_zero, List.getD_cons_succ, List.set_cons_zero, List.set_cons_succ, Nat.reduceAdd, Nat.reduceSub, Nat.reduceMul, evK_go, reduceIte, Nat.reduceEqDiff, Nat.reduceLT]
            refine ⟨by omega, i + 1, by omega, by omega, ?_⟩
            refine Wkn.of [] [some 0] ?_
            simp (implicitDefEqProofs := false) (dsimp := false) only [ef, warI, hb, Bool.false_eq_true, if_false, List.getD_cons_zero, List.set_cons_zero, List.set_cons_succ, Bool.and_self, Nat.reduceAdd, Nat.reduceSub, Nat.reduceMul, List.replicate, evK_go, reduceIte, Nat.reduceEqDiff, Nat.reduceLT, and_self, List.foldl_cons, List.foldl_nil, Int.cast_ofNat_Int, Int.natCast_add, slots, wkL_nil, wkL_cons, wkB_nil, wkR_nil, wkR_some, wkV_j, wkV_d, wkV_o, frz_d, oK_zs, reduceCtorEq]
        · obtain rfl : i = n := by omega
          simp (implicitDefEqProofs := false) (dsimp := false) only [↓optK_some, ↓rwK_mk_, ↓aw_seq, ↓aw_exit, ↓aw_ret, ↓aw_reg, ↓Qseq_n, ↓Qseq_x, ↓Qblk_n, ↓Qblk_x, ↓ops_nil, ↓ops_cons, ↓eval_tmp, ↓eval_int, ↓put_some, ↓binE_i, ↓bi_add, ↓in_i64, ↓op_move, ↓op_assign, ↓op_bin, ↓row_sz, ↓row_xs, ↓Qrow_r, ↓rowK_o, List.getD_cons_zero, List.getD_cons_succ, List.set_cons_zero, List.set_cons_succ, Bool.true_and, Nat.reduceAdd, Nat.reduceSub, Nat.reduceMul, evK_go, reduceIte, decide_false, Nat.reduceEqDiff, Nat.reduceLT, true_and, Nat.lt_irrefl]
          refine ⟨by omega, k + 1, by omega, by omega, ?_⟩
          refine Wkn.of [] [some 0] ?_
          have e : warS i (outS i l) (k + 1) = warK i (warS i (outS i l) k) k := range_foldl _ _ _
          simp (implicitDefEqProofs := false) (dsimp := false) only [e, warK, List.getD_cons_zero, List.set_cons_zero, List.set_cons_succ, Bool.and_self, Nat.reduceAdd, Nat.reduceSub, Nat.reduceMul, List.replicate, evK_go, reduceIte, Nat.reduceEqDiff, Nat.reduceLT, and_self, List.foldl_cons, List.foldl_nil, Int.cast_ofNat_Int, Int.natCast_add, slots, wkL_nil, wkL_cons, wkB_nil, wkR_nil, wkR_some, wkV_j, wkV_d, wkV_o, frz_d, oK_zs, reduceCtorEq]
    · obtain rfl : k = n := by omega
      simp (implicitDefEqProofs := false) (dsimp := false) only [↓optK_some, ↓rwK_mk_, ↓aw_seq, ↓aw_exit, ↓aw_ret, ↓aw_reg, ↓Qseq_n, ↓Qseq_x, ↓Qblk_x, ↓ops_nil, ↓ops_cons, ↓eval_tmp, ↓put_some, ↓op_move, ↓op_assign, ↓row_sz, ↓row_xs, ↓Qrow_r, ↓rowK_o, List.getD_cons_zero, List.getD_cons_succ, List.set_cons_zero, List.set_cons_succ, Bool.true_and, Nat.reduceAdd, Nat.reduceSub, Nat.reduceMul, evK_go, reduceIte, decide_false, Nat.reduceEqDiff, Nat.reduceLT, true_and, Nat.lt_irrefl]
      exact List.take_of_length_le (by simp [hs1])
theorem creach_call (n : Nat) (l : List (Nat × Nat)) (pure : Bool) (σ : St) (dst : Option Tmp) (K : St → Prop) : CallH Tryd.prog 98 [I .i64 (n : Int), .l (l.map lnN)] pure σ dst (.mk : Hid K) = OrH ((n ≤ 64 ∧ l.length < 2 ^ 62 ∧ Good n l) ∧ (pure || Res.flat (.row 1 ((war n l).map U))) = true ∧ evK ((σ.addRow ⟨1, (war n l).map U⟩).put dst (.o σ.rw.length 0 (List.length ((war n l).map U)))) (.mk : Hid K)) (.mk : Hid (CallH Tryd.prog 98 [I .i64 (n : Int), .l (l.map lnN)] pure σ dst (.mk : Hid K))) := CallH.eqR (fun h => creach_spec n l h) pure σ dst K
theorem creach_callD (n : Nat) (l : List (Nat × Nat)) (pure : Bool) (σ : St) (dst : Option Tmp) (K : St → Prop) : CallH Tryd.prog 98 [I .i64 (n : Int), .l (l.map lnN)] pure σ dst (.mk : Hid K) = OrH ((n ≤ 64 ∧ l.length < 2 ^ 62 ∧ Good n l) ∧ (pure || D.flat (.l ((war n l).map U))) = true ∧ evK (σ.put dst (.d (.l ((war n l).map U)))) (.mk : Hid K)) (.mk : Hid (CallH Tryd.prog 98 [I .i64 (n : Int), .l (l.map lnN)] pure σ dst (.mk : Hid K))) := CallH.eq (fun h => ((fun h => creach_spec n l h) h).data) pure σ dst K
theorem creach_callDQ (n : Nat) (l : List (Nat × Nat)) (pure : Bool) (C : V → Prop) : CallQ Tryd.prog 98 [I .i64 (n : Int), .l (l.map lnN)] pure (.mk : Hid C) = OrH ((n ≤ 64 ∧ l.length < 2 ^ 62 ∧ Good n l) ∧ (pure || D.flat (.l ((war n l).map U))) = true ∧ evK (V.d (.l ((war n l).map U))) (.mk : Hid C)) (.mk : Hid (CallQ Tryd.prog 98 [I .i64 (n : Int), .l (l.map lnN)] pure (.mk : Hid C))) := CallQ.eq (fun h => ((fun h => creach_spec n l h) h).data) pure C
end Go.Proofs

namespace Go.Proofs
open Go.Aw
set_option linter.unusedSimpArgs false
set_option maxRecDepth 10000
/-- Where ways go from each point. -/
def closeAll (n : Int) (l : List (Int × Int)) : List (List Int) := if chk n l = 0 then (war n.toNat (natL l)).map ptsI else []
theorem Ok.cr {n : Int} {l : List (Int × Int)} (h : Ok n l) : n.toNat ≤ 64 ∧ (natL l).length < 2 ^ 62 ∧ Good n.toNat (natL l) := ⟨h.out.1, h.out.2.1, h.good⟩
theorem set1_apps {α β : Type} (f : α → β) (l : List α) (x : α) : List.map f l ++ [f x] = List.map f (l ++ [x]) := by simp
theorem call_spec (n : Int) (l : List (Int × Int)) (hpre : l.length < 2 ^ 62) : FnD Tryd.prog 52 [I .i64 n, .l (l.map lnD)] (.t [.l ((closeAll n l).map liD), erD (chk n l)]) := by
  refine FnD.go Tryd.func52 rfl rfl Tryd.results52 Tryd.ntmps52 ?_
  simp (implicitDefEqProofs := false) (dsimp := false) only [↓aw_seq, ↓aw_reg, ↓Qseq_n, ↓ops_nil, ↓ops_cons, ↓eval_tmp, ↓eval_nil, ↓eval_func, ↓put_some, ↓op_move, ↓op_assign, ↓op_call, isD_d, ↓fnK_f, ↓call_H, ↓callK_H, ↓allT_nil, ↓allT_cons, ↓td_d, List.getD_cons_zero, List.getD_cons_succ, List.set_cons_zero, List.set_cons_succ, List.cons_append, List.nil_append, List.append_nil, List.map_cons, List.map_nil, List.length_cons, List.length_nil, List.all_cons, List.all_nil, Bool.and_self, Nat.reduceAdd, Nat.reduceSub, Nat.reduceMul, Nat.zero_add, List.replicate, evK_go, reduceIte, Nat.reduceEqDiff, Nat.reduceLT, and_self, Int.zero_add]
  simp (implicitDefEqProofs := false) (dsimp := false) only [gcheck_call, eval_nilI, ↓er_neq, er_flat, ↓cdK_not, ↓aw_cond, ↓aw_seq, ↓aw_reg, ↓Qseq_n, ↓ops_nil, ↓ops_cons, ↓eval_tmp, ↓put_some, ↓bK_b, ↓op_move, ↓op_assign, ↓op_bin, List.getD_cons_zero, List.getD_cons_succ, List.set_cons_zero, List.set_cons_succ, Bool.true_and, Bool.or_true, Nat.reduceAdd, Nat.reduceSub, Nat.reduceMul, evK_go, reduceIte, Nat.reduceEqDiff, Nat.reduceLT, true_and]
  refine OrH.l (OrH.l ⟨hpre, ?_⟩)
  refine cdK_dec (fun hc => ?_) (fun hc => ?_)
  rotate_left
  · simp (implicitDefEqProofs := false) (dsimp := false) only [closeAll, hc, ↓aw_seq, ↓aw_ret, ↓aw_reg, ↓Qseq_n, ↓Qseq_r, ↓Qret_r, ↓ops_nil, ↓ops_cons, ↓eval_tmp, ↓eval_nil, ↓put_some, ↓op_move, ↓op_assign, ↓td_d, ↓td_nl, ↓ret_2, List.getD_cons_zero, List.getD_cons_succ, List.set_cons_zero, List.set_cons_succ, List.map_nil, Nat.reduceAdd, Nat.reduceSub, Nat.reduceMul, evK_go, reduceIte, decide_false, Bool.not_false, Nat.reduceEqDiff, Nat.reduceLT]
  have ok := chk_ok hc
  rw [show closeAll n l = (war n.toNat (natL l)).map ptsI from if_pos hc, lnD_nat ok.rng, hc]
  have hcr := ok.cr
  have h8 := ok.hi
  have e0 := ok.n0
  clear ok hc hpre
  generalize n.toNat = m at *
  subst e0
  generalize natL l = L at *
  have hwl := war_len hcr.2.2
  have hwt := war_lt hcr.1 hcr.2.2
  simp (implicitDefEqProofs := false) (dsimp := false) only [creach_callD, hcr, ↓aw_seq, ↓aw_block, ↓aw_skip, ↓aw_loop, ↓aw_reg, ↓Qseq_n, ↓ops_nil, ↓ops_cons, ↓eval_tmp, ↓eval_int, ↓eval_nil, ↓eval_func, ↓put_some, ↓lenK_l, ↓op_move, ↓op_assign, ↓op_len, ↓op_call, isD_d, ↓fnK_f, ↓call_H, ↓callK_H, ↓allT_nil, ↓allT_cons, ↓td_d, ↓sl99, List.getD_cons_zero, List.getD_cons_succ, List.set_cons_zero, List.set_cons_succ, List.append_nil, List.length_map, List.all_cons, List.all_nil, Bool.true_and, Bool.and_self, Bool.true_or, Nat.reduceAdd, Nat.reduceSub, Nat.reduceMul, evK_go, reduceIte, decide_true, Bool.not_true, Nat.reduceEqDiff, Nat.reduceLT, and_self, true_and]
  refine OrH.l (OrH.l ?_)
  generalize war m L = W at hwl hwt ⊢
  simp (implicitDefEqProofs := false) (dsimp := false) only [hwl]
  refine loopW (fun k : Nat => { tm := slots 31 [(7, .o 0 0 k), (18, .d (.l (W.map U))), (19, .d (I .i64 (m : Int))), (20, .d (I .i64 k))], bx := [], rw := [some ⟨1, ((W.take k).map ptsI).map liD⟩] })
    (fun k => k ≤ m) (fun k => m - k) 0 (by simp) ?_ ?_
  · refine Wkn.of [] [none] ?_
    simp (implicitDefEqProofs := false) (dsimp := false) only [↓row_xs, List.set_cons_zero, List.set_cons_succ, List.map_nil, Bool.and_self, Nat.reduceAdd, Nat.reduceSub, Nat.reduceMul, List.replicate, evK_go, reduceIte, Nat.reduceEqDiff, Nat.reduceLT, and_self, List.take_zero, List.foldl_cons, List.foldl_nil, Int.cast_ofNat_Int, slots, wkL_nil, wkL_cons, wkB_nil, wkR_nil, wkR_new, wkV_j, wkV_d, nlK_nl, wkV_o, frz_d, oK_zn, reduceCtorEq]
  · intro k hk
    simp (implicitDefEqProofs := false) (dsimp := false) only [slots, ↓aw_cond, ↓aw_seq, ↓aw_reg, ↓Qseq_n, ↓ops_nil, ↓ops_cons, ↓eval_tmp, ↓put_some, ↓bK_b, ↓binE_i, ↓bi_lss, ↓op_bin, List.getD_cons_zero, List.getD_cons_succ, List.set_cons_zero, List.set_cons_succ, Nat.reduceAdd, Nat.reduceSub, Nat.reduceMul, List.replicate, evK_go, reduceIte, Nat.reduceEqDiff, Nat.reduceLT, List.foldl_cons, List.foldl_nil, Int.ofNat_lt]
    refine cdK_dec (fun h => ?_) (fun h => ?_)
    · have hkW : k < W.length := by omega
      have hlt := hwt _ (getD_mem hkW)
      simp (implicitDefEqProofs := false) (dsimp := false) only [h, hkW, hlt, list_callD, ↓optK_some, ↓rwK_mk_, ↓atK_H, ↓atH_map, ↓aw_seq, ↓aw_block, ↓aw_skip, ↓aw_reg, ↓Qseq_n, ↓Qblk_n, ↓ops_nil, ↓ops_cons, ↓eval_tmp, ↓eval_int, ↓eval_func, ↓put_some, ↓iK_i, ↓dK_d, ↓binE_i, ↓bi_add, ↓in_i64, ↓ldK_q, ↓iaK_l, ↓op_move, ↓op_assign, ↓op_load, ↓op_bin, ↓op_ia, ↓op_append, ↓op_call, isD_d, ↓fnK_f, ↓call_H, ↓callK_H, ↓allT_nil, ↓allT_cons, ↓allD_nil, ↓allD_cons, ↓td_d, ↓app_mk, ↓row_sz, ↓row_xs, kill_d, kill_j, kill_o, ↓cells_c, ↓cells_l, ↓one_l, ↓ap_, ↓ap_o, ↓src_l, ↓bs_, ↓op_bs, ↓bsL_f, ↓stored_mk, ↓sl_nil, ↓sl_cons, ↓sT_move, ↓sT_assign, ↓sT_bs, ↓sT_call, ↓vsz_slice, ↓inO_1, ↓fm_nil, ↓fm_cons, ↓hd_cons, ↓ty24, ↓zb24, ↓sl69, ↓sl99, ↓ty102, List.getD_cons_zero, List.getD_cons_succ, List.set_cons_zero, List.set_cons_succ, List.append_nil, List.map_cons, List.map_nil, List.length_cons, List.length_nil, List.length_map, List.all_cons, List.all_nil, Bool.true_and, Bool.and_self, Bool.true_or, Bool.or_false, Nat.reduceAdd, Nat.reduceSub, Nat.reduceMul, Nat.zero_add, Int.toNat_natCast, evK_go, reduceIte, decide_true, Nat.reduceEqDiff, Nat.reduceLT, and_self, true_and, Int.zero_add, List.drop_zero, Int.natCast_nonneg]
      refine OrH.l (OrH.l ⟨by decide, ⟨fun _ => trivial, by simp; omega, by omega, by omega⟩, by omega, k + 1, by omega, by omega, ?_⟩)
      refine Wkn.of [] [some 0] ?_
      simp (implicitDefEqProofs := false) (dsimp := false) only [take_succ_getD hkW, List.map_append, liD, List.getD_cons_zero, List.set_cons_zero, List.set_cons_succ, List.map_cons, List.map_nil, Bool.and_self, Nat.reduceAdd, Nat.reduceSub, Nat.reduceMul, List.replicate, evK_go, reduceIte, Nat.reduceEqDiff, Nat.reduceLT, and_self, List.foldl_cons, List.foldl_nil, Int.cast_ofNat_Int, Int.natCast_add, slots, wkL_nil, wkL_cons, wkB_nil, wkR_nil, wkR_some, wkV_j, wkV_d, wkV_o, frz_d, oK_zs, reduceCtorEq]
    · obtain rfl : k = m := by omega
      simp (implicitDefEqProofs := false) (dsimp := false) only [eval_nilI, ↓optK_some, ↓rwK_mk_, ↓aw_seq, ↓aw_exit, ↓aw_ret, ↓aw_reg, ↓Qseq_n, ↓Qseq_x, ↓Qblk_x, ↓Qret_r, ↓ops_nil, ↓ops_cons, ↓eval_tmp, ↓put_some, ↓op_move, ↓op_assign, ↓td_d, ↓td_o, ↓ret_2, ↓row_xs, List.getD_cons_zero, List.getD_cons_succ, List.set_cons_zero, List.set_cons_succ, Nat.reduceAdd, Nat.reduceSub, Nat.reduceMul, evK_go, reduceIte, decide_false, Nat.reduceEqDiff, Nat.reduceLT, Nat.lt_irrefl, List.drop_zero]
      have e1 : W.take k = W := List.take_of_length_le (by omega)
      have e2 : List.take k (List.map liD (List.map ptsI W)) = List.map liD (List.map ptsI W) := List.take_of_length_le (by simp; omega)
      rw [e1, e2, erD_0]
theorem call_call (n : Int) (l : List (Int × Int)) (pure : Bool) (σ : St) (dst : Option Tmp) (K : St → Prop) : CallH Tryd.prog 52 [I .i64 n, .l (l.map lnD)] pure σ dst (.mk : Hid K) = OrH ((l.length < 2 ^ 62) ∧ (pure || D.flat (.t [.l ((closeAll n l).map liD), erD (chk n l)])) = true ∧ evK (σ.put dst (.d (.t [.l ((closeAll n l).map liD), erD (chk n l)]))) (.mk : Hid K)) (.mk : Hid (CallH Tryd.prog 52 [I .i64 n, .l (l.map lnD)] pure σ dst (.mk : Hid K))) := CallH.eq (call_spec n l) pure σ dst K
theorem call_callQ (n : Int) (l : List (Int × Int)) (pure : Bool) (C : V → Prop) : CallQ Tryd.prog 52 [I .i64 n, .l (l.map lnD)] pure (.mk : Hid C) = OrH ((l.length < 2 ^ 62) ∧ (pure || D.flat (.t [.l ((closeAll n l).map liD), erD (chk n l)])) = true ∧ evK (V.d (.t [.l ((closeAll n l).map liD), erD (chk n l)])) (.mk : Hid C)) (.mk : Hid (CallQ Tryd.prog 52 [I .i64 n, .l (l.map lnD)] pure (.mk : Hid C))) := CallQ.eq (call_spec n l) pure C
end Go.Proofs

namespace Go.Proofs
open Go.Aw
set_option linter.unusedSimpArgs false
set_option maxRecDepth 10000
theorem inB_iff {x lo hi : Int} : inB x lo hi = true ↔ lo ≤ x ∧ x ≤ hi := by simp [inB]
theorem ptsI_mem (s : Nat) (c : Nat) : (c : Int) ∈ ptsI s ↔ c < 64 ∧ s.testBit c = true := by
  unfold ptsI
  rw [List.mem_map, ← pts_mem]
  exact ⟨fun ⟨x, h, e⟩ => by rw [← Int.ofNat_inj.1 e]; exact h, fun h => ⟨c, h, rfl⟩⟩
theorem mapP_get (W : List Nat) (i : Nat) : (W.map ptsI).getD i default = ptsI (W.getD i default) := by
  rw [List.getD_eq_getElem?_getD, List.getD_eq_getElem?_getD, List.getElem?_map]
  cases W[i]? <;> rfl
end Go.Proofs

namespace Go.Proofs
open Go.Aw
set_option linter.unusedSimpArgs false
set_option maxRecDepth 10000
def topoE (n : Int) (l : List (Int × Int)) : Int := if chk n l = 0 then (if (topoO n.toNat (natL l)).isSome then 0 else 5) else chk n l
def topoL (n : Int) (l : List (Int × Int)) : List Nat := if chk n l = 0 then (topoO n.toNat (natL l)).getD [] else []
theorem erD_5 : erD 5 = .c (.iface 108 (.int .i64 5)) := rfl
theorem TI.zero {n left : Nat} {l : List (Nat × Nat)} {acc : List Nat} (hl : acc.length = n) (h : TI n l left acc) : left = 0 := by
  apply Nat.eq_of_testBit_eq
  intro i
  rw [Nat.zero_testBit, ← Bool.not_eq_true]
  intro hi
  have hni : i ∉ acc := fun h' => by have := (h.out i h').2; rw [hi] at this; cases this
  have hsub : ∀ x ∈ i :: acc, x ∈ List.range n := fun x hx => by
    rcases List.mem_cons.1 hx with rfl | hx
    · simpa using h.lt x hi
    · simpa using (h.out x hx).1
  have := pig (List.nodup_cons.2 ⟨hni, h.nodup⟩) hsub
  simp at this; omega
structure TSt where
  m : Nat
  left : Nat
  acc : List Nat
theorem bits_lt {s n : Nat} (h : ∀ i, s.testBit i = true → i < n) (hn : n ≤ 64) : s < 2 ^ 64 := by
  apply Nat.lt_pow_two_of_testBit
  intro i hi
  rw [← Bool.not_eq_true]
  intro h'
  have := h i h'; omega
theorem order_spec (n : Int) (l : List (Int × Int)) (hpre : l.length < 2 ^ 62) : FnD Tryd.prog 23 [I .i64 n, .l (l.map lnD)] (.t [.l ((topoL n l).map nD), erD (topoE n l)]) := by
  refine FnD.go Tryd.func23 rfl rfl Tryd.results23 Tryd.ntmps23 ?_
  simp (implicitDefEqProofs := false) (dsimp := false) only [↓aw_seq, ↓aw_reg, ↓Qseq_n, ↓ops_nil, ↓ops_cons, ↓eval_tmp, ↓eval_nil, ↓eval_func, ↓put_some, ↓op_move, ↓op_assign, ↓op_call, isD_d, ↓fnK_f, ↓call_H, ↓callK_H, ↓allT_nil, ↓allT_cons, ↓td_d, List.getD_cons_zero, List.getD_cons_succ, List.set_cons_zero, List.set_cons_succ, List.cons_append, List.nil_append, List.append_nil, List.map_cons, List.map_nil, List.length_cons, List.length_nil, List.all_cons, List.all_nil, Bool.and_self, Nat.reduceAdd, Nat.reduceSub, Nat.reduceMul, Nat.zero_add, List.replicate, evK_go, reduceIte, Nat.reduceEqDiff, Nat.reduceLT, and_self, Int.zero_add]
  simp (implicitDefEqProofs := false) (dsimp := false) only [gcheck_call, eval_nilI, ↓er_neq, er_flat, ↓cdK_not, ↓aw_cond, ↓aw_seq, ↓aw_reg, ↓Qseq_n, ↓ops_nil, ↓ops_cons, ↓eval_tmp, ↓put_some, ↓bK_b, ↓op_move, ↓op_assign, ↓op_bin, List.getD_cons_zero, List.getD_cons_succ, List.set_cons_zero, List.set_cons_succ, Bool.true_and, Bool.or_true, Nat.reduceAdd, Nat.reduceSub, Nat.reduceMul, evK_go, reduceIte, Nat.reduceEqDiff, Nat.reduceLT, true_and]
  refine OrH.l (OrH.l ⟨hpre, ?_⟩)
  refine cdK_dec (fun hc => ?_) (fun hc => ?_)
  rotate_left
  · simp (implicitDefEqProofs := false) (dsimp := false) only [topoL, topoE, hc, ↓aw_seq, ↓aw_ret, ↓aw_reg, ↓Qseq_n, ↓Qseq_r, ↓Qret_r, ↓ops_nil, ↓ops_cons, ↓eval_tmp, ↓eval_nil, ↓put_some, ↓op_move, ↓op_assign, ↓td_d, ↓td_nl, ↓ret_2, List.getD_cons_zero, List.getD_cons_succ, List.set_cons_zero, List.set_cons_succ, List.map_nil, Nat.reduceAdd, Nat.reduceSub, Nat.reduceMul, evK_go, reduceIte, decide_false, Bool.not_false, Nat.reduceEqDiff, Nat.reduceLT]
  have ok := chk_ok hc
  rw [show topoL n l = (topoO n.toNat (natL l)).getD [] from if_pos hc, show topoE n l = (if (topoO n.toNat (natL l)).isSome then 0 else 5) from if_pos hc, lnD_nat ok.rng, hc]
  have hout := ok.out
  have hg := ok.good
  have h8 := ok.hi
  have e0 := ok.n0
  clear ok hc hpre
  generalize n.toNat = m at *
  subst e0
  generalize natL l = L at *
  simp (implicitDefEqProofs := false) (dsimp := false) only [out_callD, hout, below_call, ↓aw_seq, ↓aw_block, ↓aw_skip, ↓aw_loop, ↓aw_reg, ↓Qseq_n, ↓ops_nil, ↓ops_cons, ↓eval_tmp, ↓eval_nil, ↓eval_func, ↓put_some, ↓put_none, ↓op_move, ↓op_assign, ↓op_call, ↓op_alloc, ↓op_store, isD_d, ↓fnK_f, ↓call_H, ↓callK_H, ↓allT_nil, ↓allT_cons, ↓td_d, ↓addBox_mk, ↓setBox_mk, ↓st_bx, ↓vcells_l, ↓vcells_nl, ↓one_l, ↓vone_d, constV_n, ↓st_p, ↓ty99, ↓zb99, List.getD_cons_zero, List.getD_cons_succ, List.set_cons_zero, List.set_cons_succ, List.nil_append, List.append_nil, List.length_cons, List.length_nil, List.all_cons, List.all_nil, Bool.true_and, Bool.and_self, Bool.true_or, Nat.reduceAdd, Nat.reduceSub, Nat.reduceMul, Nat.zero_add, evK_go, reduceIte, decide_true, Bool.not_true, Nat.reduceEqDiff, Nat.reduceLT, and_self, true_and, Int.zero_add]
  refine OrH.l (OrH.l ⟨hout.2.2, OrH.l (OrH.l ⟨by omega, ?_⟩)⟩)
  refine loopW (fun st : TSt => { tm := slots 55 [(7, .p 0 0), (8, .d (U st.left)), (9, .o 0 0 st.acc.length)], bx := [.d (.l ((outS m L).map U))], rw := [some ⟨1, st.acc.map nD⟩] })
    (fun st => TI m L st.left st.acc ∧ st.acc.length + st.m = m ∧ topoGo (outS m L) st.m st.left st.acc = topoO m L) (fun st => st.m) ⟨m, 2 ^ m - 1, []⟩ ⟨.start m L, by simp, rfl⟩ ?_ ?_
  · refine Wkn.of [0] [none] ?_
    simp (implicitDefEqProofs := false) (dsimp := false) only [↓row_xs, ↓vcells_l, List.getD_cons_zero, List.set_cons_zero, List.set_cons_succ, List.map_nil, List.length_cons, List.length_nil, Bool.and_self, Nat.reduceAdd, Nat.reduceSub, Nat.reduceMul, Nat.zero_add, List.replicate, evK_go, reduceIte, Nat.reduceEqDiff, Nat.reduceLT, and_self, Int.zero_add, List.foldl_cons, List.foldl_nil, slots, wkL_nil, wkL_cons, wkB_nil, wkB_cons, wkR_nil, wkR_new, wkV_j, wkV_d, nlK_nl, wkV_o, wkV_p, frz_d, oK_zn, pK_z, reduceCtorEq]
  · rintro ⟨q, left, acc⟩ ⟨hTI, hlen, hgo⟩
    simp only at hTI hlen hgo
    have hl64 := bits_lt hTI.lt (by omega)
    simp (implicitDefEqProofs := false) (dsimp := false) only [slots, ↓cdK_not, ↓aw_cond, ↓aw_seq, ↓aw_reg, ↓Qseq_n, ↓ops_nil, ↓ops_cons, ↓eval_tmp, ↓eval_int, ↓put_some, ↓bK_b, ↓binE_i, ↓bi_neq, ↓op_move, ↓op_bin, List.getD_cons_zero, List.getD_cons_succ, List.set_cons_zero, List.set_cons_succ, Nat.reduceAdd, Nat.reduceSub, Nat.reduceMul, List.replicate, evK_go, reduceIte, Nat.reduceEqDiff, Nat.reduceLT, List.foldl_cons, List.foldl_nil]
    refine cdK_dec (fun h => ?_) (fun h => ?_)
    · have h0 : left = 0 := by omega
      subst h0
      have : topoO m L = some acc := by
        rw [← hgo]
        cases q with
        | zero => rfl
        | succ q => unfold topoGo; rw [if_pos rfl]
      rw [this]
      simp (implicitDefEqProofs := false) (dsimp := false) only [eval_nilI, ↓optK_some, ↓rwK_mk_, ↓aw_seq, ↓aw_exit, ↓aw_ret, ↓aw_reg, ↓Qseq_n, ↓Qseq_x, ↓Qblk_x, ↓Qret_r, ↓ops_nil, ↓ops_cons, ↓eval_tmp, ↓put_some, ↓op_move, ↓op_assign, ↓td_d, ↓td_o, ↓ret_2, ↓row_xs, ↓take_map, List.getD_cons_zero, List.getD_cons_succ, List.set_cons_zero, List.set_cons_succ, Nat.reduceAdd, Nat.reduceSub, Nat.reduceMul, evK_go, reduceIte, decide_true, Bool.not_true, Nat.reduceEqDiff, Nat.reduceLT, Option.getD_some, List.drop_zero, Int.cast_ofNat_Int]
      rfl
    · have h0 : left ≠ 0 := by omega
      cases q with
      | zero => exact absurd (hTI.zero (by omega)) h0
      | succ q =>
      have hol := outS_len m L
      have hot := outS_lt' (n := m) (by omega) hg
      simp (implicitDefEqProofs := false) (dsimp := false) only [each_call, ↓aw_seq, ↓aw_block, ↓aw_skip, ↓aw_rng, ↓aw_reg, ↓Qseq_n, ↓ops_nil, ↓ops_cons, ↓eval_tmp, ↓eval_int, ↓eval_func, ↓put_some, ↓put_none, ↓op_move, ↓op_call, ↓op_alloc, ↓op_store, isD_d, ↓fnK_f, ↓call_H, ↓callK_H, ↓allT_nil, ↓allT_cons, ↓td_d, ↓addBox_mk, ↓setBox_mk, ↓st_bx, ↓vcells_c, ↓one_i, ↓vone_d, constV_i, ↓st_p, ↓ty102, ↓zb102, List.getD_cons_zero, List.getD_cons_succ, List.set_cons_zero, List.set_cons_succ, List.cons_append, List.nil_append, List.append_nil, List.length_cons, List.length_nil, List.all_cons, List.all_nil, Bool.true_and, Bool.and_self, Bool.true_or, Nat.reduceAdd, Nat.reduceSub, Nat.reduceMul, Nat.zero_add, evK_go, reduceIte, Nat.reduceEqDiff, Nat.reduceLT, and_self, true_and, Int.zero_add]
      refine OrH.l (OrH.l ?_)
      refine rangeW (slots 55 [(7, .p 0 0), (8, .d (U left)), (9, .o 0 0 acc.length), (10, .p 1 0), (27, .d (.f (.func 111) [.q [U left]]))])
        (fun P : List Nat => [.d (.l ((outS m L).map U)), .d (U (orL (outS m L) P))]) (fun _ => [some ⟨1, acc.map nD⟩]) (fun ys P => ys = P.map Int.ofNat) []
        (by simp [slots]) (each_iter _ hl64) ?_ rfl ?_ ?_ ?_
      · simp (implicitDefEqProofs := false) (dsimp := false) only [slots, ↓eval_tmp, List.getD_cons_zero, List.getD_cons_succ, List.set_cons_zero, List.set_cons_succ, Nat.reduceAdd, Nat.reduceSub, Nat.reduceMul, List.replicate, evK_go, reduceIte, Nat.reduceEqDiff, Nat.reduceLT, List.foldl_cons, List.foldl_nil]
      · refine Wkn.of [0, 1] [some 0] ?_
        simp (implicitDefEqProofs := false) (dsimp := false) only [orL, List.foldl_nil, ↓vcells_c, ↓vcells_l, List.getD_cons_zero, List.getD_cons_succ, List.set_cons_zero, List.set_cons_succ, List.length_cons, List.length_nil, Bool.and_self, Nat.reduceAdd, Nat.reduceSub, Nat.reduceMul, Nat.zero_add, List.replicate, evK_go, reduceIte, Nat.reduceEqDiff, Nat.reduceLT, and_self, Int.zero_add, List.foldl_cons, List.foldl_nil, Int.cast_ofNat_Int, slots, wkL_nil, wkL_cons, wkB_nil, wkB_cons, wkR_nil, wkR_some, wkV_j, wkV_d, wkV_o, wkV_p, frz_d, oK_zs, pK_z, pK_s, dc_eq, reduceCtorEq]
      · rintro ys x P hpx rfl
        obtain ⟨P', c, hP, rfl, hcc⟩ := prefix_map hpx
        obtain rfl : P = P' := ofNat_inj hP
        have hcm := (pts_mem _ _).1 (hcc.subset (by simp : c ∈ P ++ [c]))
        have hcl : c < (outS m L).length := by rw [hol]; exact hTI.lt c hcm.2
        have hct := hot _ (getD_mem hcl)
        have hor := orL_lt hot P
        simp (implicitDefEqProofs := false) (dsimp := false) only [slots, hcl, hct, hor, ↓atK_H, ↓atH_map, ↓nthK_H, ↓nthH_zero, ↓aw_block, ↓aw_reg, ↓aw_draw, ↓Qblk_n, ↓ops_nil, ↓ops_cons, ↓eval_tmp, ↓put_some, ↓put_none, ↓iK_i, ↓ev_move, ↓ev_load, ↓ev_bin, ↓ev_ia, ↓binE_i, ↓bi_or, ↓ldK_q, ↓ldK_p, ↓iaK_l, ↓op_assign, ↓op_store, ↓draw_H, ↓h_cons, ↓ldH_t, ↓ldH_n, ↓q_move, ↓q_load, ↓q_bin, ↓q_ia, ↓il_move, ↓il_load, ↓il_bin, ↓il_ia, ↓il_store, ↓setBox_mk, ↓st_bx, ↓cells_c, ↓vcells_c, ↓vcells_l, ↓one_i, ↓vone_d, ↓st_p, ↓hd_cons, ↓Qn_n, ↓Qrd_n, ↓back_mk, ↓ty99, ↓sl99, ↓ty102, List.getD_cons_zero, List.getD_cons_succ, List.set_cons_zero, List.set_cons_succ, List.length_cons, List.length_nil, List.all_cons, List.all_nil, Bool.true_and, Bool.and_self, Nat.reduceAdd, Nat.reduceSub, Nat.reduceMul, Nat.zero_add, Int.toNat_natCast, List.replicate, evK_go, reduceIte, Nat.reduceEqDiff, Nat.reduceLT, and_self, true_and, Int.zero_add, List.foldl_cons, List.foldl_nil, Int.natCast_nonneg]
        refine OrH.l ⟨DrawH.of follows_mixed (by kernel_rfl), ?_⟩
        refine ⟨P ++ [c], by simp, ?_⟩
        refine Wkn.of [0, 1] [some 0] ?_
        simp (implicitDefEqProofs := false) (dsimp := false) only [orL_snoc, ↓vcells_c, ↓vcells_l, List.getD_cons_zero, List.getD_cons_succ, List.length_cons, List.length_nil, Bool.and_self, Nat.reduceAdd, Nat.reduceSub, Nat.reduceMul, Nat.zero_add, evK_go, reduceIte, Nat.reduceEqDiff, Nat.reduceLT, and_self, Int.zero_add, slots, wkL_nil, wkL_cons, wkB_nil, wkB_cons, wkR_nil, wkR_some, wkV_j, wkV_d, wkV_o, wkV_p, frz_d, oK_zs, pK_z, pK_s, reduceCtorEq]
      · rintro P hP
        obtain rfl : pts left = P := ofNat_inj hP
        have hor := orL_lt hot (pts left)
        have hF : dif left (orL (outS m L) (pts left)) < 2 ^ 64 := dif_lt hl64
        have hgo2 : (if pts (dif left (orL (outS m L) (pts left))) = [] then none else topoGo (outS m L) q (dif left (2 ^ low (dif left (orL (outS m L) (pts left))))) (acc ++ [low (dif left (orL (outS m L) (pts left)))])) = topoO m L := by
          rw [← hgo]
          show _ = (if left = 0 then _ else _)
          rw [if_neg h0]; rfl
        have hnx := fun j hj => hTI.next (n := m) (by omega) hg (j := j) hj
        simp (implicitDefEqProofs := false) (dsimp := false) only [freeS] at hnx
        simp (implicitDefEqProofs := false) (dsimp := false) only [slots, hor, hl64, list_callD, hF, ↓nthK_H, ↓nthH_zero, ↓aw_cond, ↓aw_seq, ↓aw_reg, ↓Qseq_n, ↓Qblk_n, ↓ops_nil, ↓ops_cons, ↓eval_tmp, ↓eval_int, ↓eval_func, ↓put_some, ↓bK_b, ↓lenK_l, ↓binE_i, ↓bi_eql, ↓bi_andNot, ↓ldK_p, ↓op_move, ↓op_assign, ↓op_load, ↓op_bin, ↓op_len, ↓op_call, isD_d, ↓fnK_f, ↓call_H, ↓callK_H, ↓allT_nil, ↓allT_cons, ↓td_d, ↓vcells_c, ↓sl24, ↓ty102, List.getD_cons_zero, List.getD_cons_succ, List.set_cons_zero, List.set_cons_succ, List.append_nil, List.length_map, List.all_cons, List.all_nil, Bool.true_and, Bool.and_self, Bool.true_or, Nat.reduceAdd, Nat.reduceSub, Nat.reduceMul, List.replicate, evK_go, reduceIte, Nat.reduceEqDiff, Nat.reduceLT, and_self, true_and, List.foldl_cons, List.foldl_nil]
        generalize dif left (orL (outS m L) (pts left)) = F at hF hgo2 hnx ⊢
        refine OrH.l (OrH.l ?_)
        refine cdK_dec (fun he => ?_) (fun he => ?_)
        · have hp : pts F = [] := List.eq_nil_of_length_eq_zero (by simpa [ptsI] using he)
          rw [if_pos hp] at hgo2
          rw [← hgo2]
          simp (implicitDefEqProofs := false) (dsimp := false) only [nc108, ↓aw_seq, ↓aw_ret, ↓aw_reg, ↓Qseq_n, ↓Qseq_r, ↓Qblk_r, ↓Qret_r, ↓ops_nil, ↓ops_cons, ↓eval_tmp, ↓eval_int, ↓eval_nil, ↓put_some, ↓vK_c, ↓op_assign, ↓op_iface, ↓td_d, ↓td_nl, ↓ret_2, ↓nc108, List.getD_cons_zero, List.getD_cons_succ, List.set_cons_zero, List.set_cons_succ, List.map_nil, Bool.true_and, Nat.reduceAdd, Nat.reduceSub, Nat.reduceMul, evK_go, reduceIte, Nat.reduceEqDiff, Nat.reduceLT, true_and, Option.getD_none]
          rfl
        · have hp : pts F ≠ [] := fun e => he (by simp [ptsI, e])
          rw [if_neg hp] at hgo2
          have e1 : (ptsI F).getD 0 default = (low F : Int) := by
            unfold low ptsI
            cases hpp : pts F with
            | nil => exact absurd hpp hp
            | cons x t => rfl
          have hpos : 0 < (ptsI F).length := by rw [ptsI, List.length_map]; exact List.length_pos_iff.2 hp
          have hlow := (pts_mem _ _).1 (low_mem hp)
          have hl2 : low F < 64 := hlow.1
          simp (implicitDefEqProofs := false) (dsimp := false) only [hpos, e1, without_call, hl64, hl2, ↓optK_some, ↓rwK_mk_, ↓atK_H, ↓atH_map, ↓aw_seq, ↓aw_skip, ↓aw_reg, ↓Qseq_n, ↓Qblk_n, ↓ops_nil, ↓ops_cons, ↓eval_tmp, ↓eval_int, ↓eval_func, ↓put_some, ↓iK_i, ↓dK_d, ↓ldK_q, ↓iaK_l, ↓op_move, ↓op_assign, ↓op_load, ↓op_ia, ↓op_append, ↓op_call, isD_d, ↓fnK_f, ↓call_H, ↓callK_H, ↓allT_nil, ↓allT_cons, ↓allD_nil, ↓allD_cons, ↓td_d, ↓app_mk, ↓row_sz, ↓row_xs, kill_d, kill_j, kill_p, kill_o, ↓cells_c, ↓one_i, ↓ap_, ↓ap_o, ↓src_l, ↓bs_, ↓op_bs, ↓bsL_f, ↓stored_mk, ↓sl_nil, ↓sl_cons, ↓sT_move, ↓sT_assign, ↓sT_load, ↓sT_ia, ↓sT_bs, ↓sT_call, ↓vsz_int, ↓inO_1, ↓fm_nil, ↓fm_cons, ↓hd_cons, ↓ty3, ↓zb3, ↓sl24, List.getD_cons_zero, List.getD_cons_succ, List.set_cons_zero, List.set_cons_succ, List.append_nil, List.map_cons, List.map_nil, List.length_cons, List.length_nil, List.length_map, List.all_cons, List.all_nil, Bool.true_and, Bool.and_self, Bool.true_or, Bool.or_false, Nat.reduceAdd, Nat.reduceSub, Nat.reduceMul, Nat.zero_add, Int.toNat_zero, evK_go, reduceIte, Nat.reduceEqDiff, Nat.reduceLT, and_self, true_and, Int.zero_add, List.drop_zero]
          refine ⟨by decide, by decide, ⟨fun _ => trivial, by omega, by omega⟩, by decide, OrH.l (OrH.l ⟨⟨q, dif left (2 ^ low F), acc ++ [low F]⟩, ⟨hnx _ hlow.2, by simp; omega, hgo2⟩, by simp, ?_⟩)⟩
          refine Wkn.of [0] [some 0] ?_
          simp (implicitDefEqProofs := false) (dsimp := false) only [List.map_append, List.length_append, nD, ↓vcells_l, List.getD_cons_zero, List.set_cons_zero, List.set_cons_succ, List.map_cons, List.map_nil, List.length_cons, List.length_nil, Bool.and_self, Nat.reduceAdd, Nat.reduceSub, Nat.reduceMul, Nat.zero_add, List.replicate, evK_go, reduceIte, Nat.reduceEqDiff, Nat.reduceLT, and_self, Int.zero_add, List.foldl_cons, List.foldl_nil, slots, wkL_nil, wkL_cons, wkB_nil, wkB_cons, wkR_nil, wkR_some, wkV_j, wkV_d, wkV_o, wkV_p, frz_d, oK_zs, pK_z, reduceCtorEq]
theorem order_call (n : Int) (l : List (Int × Int)) (pure : Bool) (σ : St) (dst : Option Tmp) (K : St → Prop) : CallH Tryd.prog 23 [I .i64 n, .l (l.map lnD)] pure σ dst (.mk : Hid K) = OrH ((l.length < 2 ^ 62) ∧ (pure || D.flat (.t [.l ((topoL n l).map nD), erD (topoE n l)])) = true ∧ evK (σ.put dst (.d (.t [.l ((topoL n l).map nD), erD (topoE n l)]))) (.mk : Hid K)) (.mk : Hid (CallH Tryd.prog 23 [I .i64 n, .l (l.map lnD)] pure σ dst (.mk : Hid K))) := CallH.eq (order_spec n l) pure σ dst K
theorem order_callQ (n : Int) (l : List (Int × Int)) (pure : Bool) (C : V → Prop) : CallQ Tryd.prog 23 [I .i64 n, .l (l.map lnD)] pure (.mk : Hid C) = OrH ((l.length < 2 ^ 62) ∧ (pure || D.flat (.t [.l ((topoL n l).map nD), erD (topoE n l)])) = true ∧ evK (V.d (.t [.l ((topoL n l).map nD), erD (topoE n l)])) (.mk : Hid C)) (.mk : Hid (CallQ Tryd.prog 23 [I .i64 n, .l (l.map lnD)] pure (.mk : Hid C))) := CallQ.eq (order_spec n l) pure C
end Go.Proofs

namespace Go.Proofs
open Go.Aw
set_option linter.unusedSimpArgs false
set_option maxRecDepth 10000
def fewR (n : Int) (l : List (Int × Int)) : List (Nat × Nat) := if topoE n l = 0 then few n.toNat (natL l) else []
def fewK (n : Nat) (l : List (Nat × Nat)) (k : Nat) : List (Nat × Nat) := (List.range k).flatMap fun i => (pts (fewB n l i)).map fun j => (i, j)
theorem fewK_succ (n : Nat) (l : List (Nat × Nat)) (k : Nat) : fewK n l (k + 1) = fewK n l k ++ (pts (fewB n l k)).map fun j => (k, j) := by
  unfold fewK
  rw [List.range_succ, List.flatMap_append]
  simp
theorem topoE_zero {n : Int} {l : List (Int × Int)} (h : topoE n l = 0) : chk n l = 0 ∧ ∃ o, topoO n.toNat (natL l) = some o := by
  unfold topoE at h
  split at h
  · rename_i hc
    refine ⟨hc, ?_⟩
    cases e : topoO n.toNat (natL l) with
    | some o => exact ⟨o, rfl⟩
    | none => rw [e] at h; cases h
  · rename_i hc; exact absurd h hc
theorem fewK_len (n : Nat) (l : List (Nat × Nat)) (k : Nat) : (fewK n l k).length ≤ k * 64 := by
  induction k with
  | zero => simp [fewK]
  | succ k ih =>
    rw [fewK_succ, List.length_append, List.length_map]
    have := pts_len (fewB n l k)
    omega
theorem few_spec (n : Int) (l : List (Int × Int)) (hpre : l.length < 2 ^ 62) : FnD Tryd.prog 54 [I .i64 n, .l (l.map lnD)] (.t [.l ((fewR n l).map lnN), erD (topoE n l)]) := by
  refine FnD.go Tryd.func54 rfl rfl Tryd.results54 Tryd.ntmps54 ?_
  simp (implicitDefEqProofs := false) (dsimp := false) only [↓aw_seq, ↓aw_reg, ↓Qseq_n, ↓ops_nil, ↓ops_cons, ↓eval_tmp, ↓eval_nil, ↓eval_func, ↓put_some, ↓op_move, ↓op_assign, ↓op_call, isD_d, ↓fnK_f, ↓call_H, ↓callK_H, ↓allT_nil, ↓allT_cons, ↓td_d, List.getD_cons_zero, List.getD_cons_succ, List.set_cons_zero, List.set_cons_succ, List.cons_append, List.nil_append, List.append_nil, List.map_cons, List.map_nil, List.length_cons, List.length_nil, List.all_cons, List.all_nil, Bool.and_self, Nat.reduceAdd, Nat.reduceSub, Nat.reduceMul, Nat.zero_add, List.replicate, evK_go, reduceIte, Nat.reduceEqDiff, Nat.reduceLT, and_self, Int.zero_add]
  simp (implicitDefEqProofs := false) (dsimp := false) only [order_call, eval_nilI, ↓er_neq, ↓cdK_not, ↓nthK_H, ↓nthH_zero, ↓nthH_succ, ↓aw_cond, ↓aw_seq, ↓aw_reg, ↓Qseq_n, ↓ops_nil, ↓ops_cons, ↓eval_tmp, ↓put_some, ↓bK_b, ↓tK_t, ↓op_move, ↓op_assign, ↓op_bin, ↓op_extract, List.getD_cons_zero, List.getD_cons_succ, List.set_cons_zero, List.set_cons_succ, Bool.true_and, Bool.true_or, Nat.reduceAdd, Nat.reduceSub, Nat.reduceMul, evK_go, reduceIte, Nat.reduceEqDiff, Nat.reduceLT, true_and]
  refine OrH.l (OrH.l ⟨hpre, ?_⟩)
  refine cdK_dec (fun hc => ?_) (fun hc => ?_)
  rotate_left
  · simp (implicitDefEqProofs := false) (dsimp := false) only [fewR, hc, ↓aw_seq, ↓aw_ret, ↓aw_reg, ↓Qseq_n, ↓Qseq_r, ↓Qret_r, ↓ops_nil, ↓ops_cons, ↓eval_tmp, ↓eval_nil, ↓put_some, ↓op_move, ↓op_assign, ↓td_d, ↓td_nl, ↓ret_2, List.getD_cons_zero, List.getD_cons_succ, List.set_cons_zero, List.set_cons_succ, List.map_nil, Nat.reduceAdd, Nat.reduceSub, Nat.reduceMul, evK_go, reduceIte, decide_false, Bool.not_false, Nat.reduceEqDiff, Nat.reduceLT]
  obtain ⟨hchk, o, ho⟩ := topoE_zero hc
  have ok := chk_ok hchk
  rw [show fewR n l = few n.toNat (natL l) from if_pos hc, lnD_nat ok.rng, hc]
  have hcr := ok.cr
  have h8 := ok.hi
  have e0 := ok.n0
  clear ok hc hpre hchk ho
  generalize topoL n l = TL
  generalize n.toNat = m at *
  subst e0
  generalize natL l = L at *
  have hwl := war_len hcr.2.2
  have hwt := war_lt hcr.1 hcr.2.2
  simp (implicitDefEqProofs := false) (dsimp := false) only [creach_callD, hcr, ↓aw_seq, ↓aw_block, ↓aw_skip, ↓aw_loop, ↓aw_reg, ↓Qseq_n, ↓ops_nil, ↓ops_cons, ↓eval_tmp, ↓eval_int, ↓eval_func, ↓put_some, ↓put_none, ↓op_move, ↓op_call, ↓op_alloc, ↓op_store, isD_d, ↓fnK_f, ↓call_H, ↓callK_H, ↓allT_nil, ↓allT_cons, ↓td_d, ↓addBox_mk, ↓setBox_mk, ↓st_bx, ↓vcells_l, ↓vcells_nl, ↓one_l, ↓vone_d, constV_n, ↓st_p, ↓zb22, ↓ty99, ↓zb99, List.getD_cons_zero, List.getD_cons_succ, List.set_cons_zero, List.set_cons_succ, List.cons_append, List.nil_append, List.append_nil, List.length_cons, List.length_nil, List.all_cons, List.all_nil, Bool.true_and, Bool.and_self, Bool.true_or, Nat.reduceAdd, Nat.reduceSub, Nat.reduceMul, Nat.zero_add, evK_go, reduceIte, decide_true, Bool.not_true, Nat.reduceEqDiff, Nat.reduceLT, and_self, true_and, Int.zero_add]
  refine OrH.l (OrH.l ?_)
  refine loopW (fun k : Nat => { tm := slots 58 [(8, .p 0 0), (9, .p 1 0), (26, .d (I .i64 (m : Int))), (27, .d (I .i64 k))], bx := [.d (.l ((war m L).map U)), .o 0 0 (fewK m L k).length], rw := [some ⟨2, (fewK m L k).map lnN⟩] })
    (fun k => k ≤ m) (fun k => m - k) 0 (by simp) ?_ ?_
  · refine Wkn.of [0, 1] [none] ?_
    simp (implicitDefEqProofs := false) (dsimp := false) only [fewK, List.range_zero, List.flatMap_nil, ↓row_xs, ↓vcells_l, ↓vcells_nl, ↓vcells_o, List.getD_cons_zero, List.getD_cons_succ, List.set_cons_zero, List.set_cons_succ, List.map_nil, List.length_cons, List.length_nil, Bool.and_self, Nat.reduceAdd, Nat.reduceSub, Nat.reduceMul, Nat.zero_add, List.replicate, evK_go, reduceIte, Nat.reduceEqDiff, Nat.reduceLT, and_self, Int.zero_add, List.foldl_cons, List.foldl_nil, Int.cast_ofNat_Int, slots, wkL_nil, wkL_cons, wkB_nil, wkB_cons, wkR_nil, wkR_new, wkV_j, wkV_d, nlK_nl, wkV_o, wkV_p, frz_d, oK_zn, pK_z, pK_s, reduceCtorEq]
  · intro k hk
    simp (implicitDefEqProofs := false) (dsimp := false) only [slots, ↓aw_cond, ↓aw_seq, ↓aw_reg, ↓Qseq_n, ↓ops_nil, ↓ops_cons, ↓eval_tmp, ↓put_some, ↓bK_b, ↓binE_i, ↓bi_lss, ↓op_bin, List.getD_cons_zero, List.getD_cons_succ, List.set_cons_zero, List.set_cons_succ, Nat.reduceAdd, Nat.reduceSub, Nat.reduceMul, List.replicate, evK_go, reduceIte, Nat.reduceEqDiff, Nat.reduceLT, List.foldl_cons, List.foldl_nil, Int.ofNat_lt]
    refine cdK_dec (fun h => ?_) (fun h => ?_)
    · have hkW : k < (war m L).length := by omega
      have hlt := hwt _ (getD_mem hkW)
      simp (implicitDefEqProofs := false) (dsimp := false) only [h, hkW, each_call, ↓atK_H, ↓atH_map, ↓nthK_H, ↓nthH_zero, ↓aw_seq, ↓aw_block, ↓aw_skip, ↓aw_rng, ↓aw_reg, ↓Qseq_n, ↓ops_nil, ↓ops_cons, ↓eval_tmp, ↓eval_int, ↓eval_func, ↓put_some, ↓put_none, ↓iK_i, ↓ldK_q, ↓ldK_p, ↓iaK_l, ↓op_move, ↓op_load, ↓op_ia, ↓op_call, ↓op_alloc, ↓op_store, isD_d, ↓fnK_f, ↓call_H, ↓callK_H, ↓allT_nil, ↓allT_cons, ↓td_d, ↓addBox_mk, ↓setBox_mk, ↓st_bx, ↓cells_c, ↓vcells_c, ↓vcells_l, ↓one_i, ↓vone_d, constV_i, ↓st_p, ↓hd_cons, ↓ty3, ↓zb3, ↓ty99, ↓sl99, ↓ty102, ↓zb102, List.getD_cons_zero, List.getD_cons_succ, List.set_cons_zero, List.set_cons_succ, List.cons_append, List.nil_append, List.append_nil, List.length_cons, List.length_nil, List.all_cons, List.all_nil, Bool.true_and, Bool.and_self, Bool.true_or, Nat.reduceAdd, Nat.reduceSub, Nat.reduceMul, Nat.zero_add, Int.toNat_natCast, evK_go, reduceIte, decide_true, Nat.reduceEqDiff, Nat.reduceLT, and_self, true_and, Int.zero_add, Int.natCast_nonneg]
      refine OrH.l (OrH.l ?_)
      refine rangeW (slots 58 [(8, .p 0 0), (9, .p 1 0), (10, .p 2 0), (11, .p 3 0), (26, .d (I .i64 (m : Int))), (27, .d (I .i64 (k : Int))), (34, .d (.f (.func 111) [.q [U ((war m L).getD k default)]]))])
        (fun P : List Nat => [.d (.l ((war m L).map U)), .o 0 0 (fewK m L k).length, .d (I .i64 (k : Int)), .d (U (orL (war m L) P))]) (fun _ => [some ⟨2, (fewK m L k).map lnN⟩]) (fun ys P => ys = P.map Int.ofNat) []
        (by simp [slots]) (each_iter _ hlt) ?_ rfl ?_ ?_ ?_
      · simp (implicitDefEqProofs := false) (dsimp := false) only [slots, ↓eval_tmp, List.getD_cons_zero, List.getD_cons_succ, List.set_cons_zero, List.set_cons_succ, Nat.reduceAdd, Nat.reduceSub, Nat.reduceMul, List.replicate, evK_go, reduceIte, Nat.reduceEqDiff, Nat.reduceLT, List.foldl_cons, List.foldl_nil]
      · refine Wkn.of [0, 1, 2, 3] [some 0] ?_
        simp (implicitDefEqProofs := false) (dsimp := false) only [orL, List.foldl_nil, ↓vcells_c, ↓vcells_l, ↓vcells_o, List.getD_cons_zero, List.getD_cons_succ, List.set_cons_zero, List.set_cons_succ, List.length_cons, List.length_nil, Bool.and_self, Nat.reduceAdd, Nat.reduceSub, Nat.reduceMul, Nat.zero_add, List.replicate, evK_go, reduceIte, Nat.reduceEqDiff, Nat.reduceLT, and_self, Int.zero_add, List.foldl_cons, List.foldl_nil, Int.cast_ofNat_Int, slots, wkL_nil, wkL_cons, wkB_nil, wkB_cons, wkR_nil, wkR_some, wkV_j, wkV_d, wkV_o, wkV_p, frz_d, oK_zs, pK_z, pK_s, dc_eq, reduceCtorEq]
      · rintro ys x P hpx rfl
        obtain ⟨P', c, hP, rfl, hcc⟩ := prefix_map hpx
        obtain rfl : P = P' := ofNat_inj hP
        have hcm := (pts_mem _ _).1 (hcc.subset (by simp : c ∈ P ++ [c]))
        have hcl : c < (war m L).length := by rw [hwl]; exact ((((war_bit hcr.2.2 _ _).1 hcm.2).lt hcr.2.2)).2
        have hct := hwt _ (getD_mem hcl)
        have hor := orL_lt hwt P
        simp (implicitDefEqProofs := false) (dsimp := false) only [slots, hcl, hct, hor, ↓atK_H, ↓atH_map, ↓nthK_H, ↓nthH_zero, ↓aw_block, ↓aw_reg, ↓aw_draw, ↓Qblk_n, ↓ops_nil, ↓ops_cons, ↓eval_tmp, ↓put_some, ↓put_none, ↓iK_i, ↓ev_move, ↓ev_load, ↓ev_bin, ↓ev_ia, ↓binE_i, ↓bi_or, ↓ldK_q, ↓ldK_p, ↓iaK_l, ↓op_assign, ↓op_store, ↓draw_H, ↓h_cons, ↓ldH_t, ↓ldH_n, ↓q_move, ↓q_load, ↓q_bin, ↓q_ia, ↓il_move, ↓il_load, ↓il_bin, ↓il_ia, ↓il_store, ↓setBox_mk, ↓st_bx, ↓cells_c, ↓vcells_c, ↓vcells_l, ↓one_i, ↓vone_d, ↓st_p, ↓hd_cons, ↓Qn_n, ↓Qrd_n, ↓back_mk, ↓ty99, ↓sl99, ↓ty102, List.getD_cons_zero, List.getD_cons_succ, List.set_cons_zero, List.set_cons_succ, List.length_cons, List.length_nil, List.all_cons, List.all_nil, Bool.true_and, Bool.and_self, Nat.reduceAdd, Nat.reduceSub, Nat.reduceMul, Nat.zero_add, Int.toNat_natCast, List.replicate, evK_go, reduceIte, Nat.reduceEqDiff, Nat.reduceLT, and_self, true_and, Int.zero_add, List.foldl_cons, List.foldl_nil, Int.natCast_nonneg]
        refine OrH.l ⟨DrawH.of follows_mixed (by kernel_rfl), ?_⟩
        refine ⟨P ++ [c], by simp, ?_⟩
        refine Wkn.of [0, 1, 2, 3] [some 0] ?_
        simp (implicitDefEqProofs := false) (dsimp := false) only [orL_snoc, ↓vcells_c, ↓vcells_l, ↓vcells_o, List.getD_cons_zero, List.getD_cons_succ, List.length_cons, List.length_nil, Bool.and_self, Nat.reduceAdd, Nat.reduceSub, Nat.reduceMul, Nat.zero_add, evK_go, reduceIte, Nat.reduceEqDiff, Nat.reduceLT, and_self, Int.zero_add, slots, wkL_nil, wkL_cons, wkB_nil, wkB_cons, wkR_nil, wkR_some, wkV_j, wkV_d, wkV_o, wkV_p, frz_d, oK_zs, pK_z, pK_s, reduceCtorEq]
      · rintro P hP
        obtain rfl : pts ((war m L).getD k default) = P := ofNat_inj hP
        have hor := orL_lt hwt (pts ((war m L).getD k default))
        have hF : fewB m L k < 2 ^ 64 := dif_lt hlt
        have eF : dif ((war m L).getD k default) (orL (war m L) (pts ((war m L).getD k default))) = fewB m L k := rfl
        simp (implicitDefEqProofs := false) (dsimp := false) only [slots, hkW, hlt, hor, each_callQ, eF, ↓atK_H, ↓atH_map, ↓nthK_H, ↓nthH_zero, ↓aw_seq, ↓aw_block, ↓aw_rng, ↓aw_draw, ↓Qseq_n, ↓Qblk_n, ↓eval_tmp, ↓eval_func, ↓put_some, ↓iK_i, ↓ev_load, ↓ev_bin, ↓ev_ia, ↓binE_i, ↓bi_andNot, ↓ldK_q, ↓ldK_p, ↓iaK_l, isD_d, ↓fnK_f, ↓callKQ_H, ↓allT_nil, ↓allT_cons, ↓td_d, ↓draw_H, ↓h_nil, ↓h_cons, ↓ldH_n, ↓q_call, ↓q_load, ↓q_bin, ↓q_ia, ↓il_load, ↓il_bin, ↓il_ia, ↓il_call, ↓cells_c, ↓vcells_c, ↓vcells_l, ↓hd_cons, ↓ty3, ↓ty99, ↓sl99, ↓ty102, List.getD_cons_zero, List.getD_cons_succ, List.set_cons_zero, List.set_cons_succ, List.append_nil, List.length_cons, List.length_nil, List.all_cons, List.all_nil, Bool.true_and, Bool.and_self, Bool.true_or, Nat.reduceAdd, Nat.reduceSub, Nat.reduceMul, Nat.zero_add, Int.toNat_natCast, List.replicate, evK_go, reduceIte, Nat.reduceEqDiff, Nat.reduceLT, and_self, true_and, Int.zero_add, List.foldl_cons, List.foldl_nil, Int.natCast_nonneg]
        refine OrH.l ⟨DrawH.of follows_mixed (by kernel_rfl), OrH.l (OrH.l ?_)⟩
        refine rangeW (slots 58 [(8, .p 0 0), (9, .p 1 0), (10, .p 2 0), (26, .d (I .i64 (m : Int))), (27, .d (I .i64 (k : Int))), (48, .d (.f (.func 111) [.q [U (fewB m L k)]]))])
          (fun P : List Nat => [.d (.l ((war m L).map U)), .o 0 0 ((fewK m L k).length + P.length), .d (I .i64 (k : Int))]) (fun P => [some ⟨2, (fewK m L k ++ P.map fun j => (k, j)).map lnN⟩]) (fun ys P => ys = P.map Int.ofNat) []
          (by simp [slots]) (each_iter _ hF) ?_ rfl ?_ ?_ ?_
        · simp (implicitDefEqProofs := false) (dsimp := false) only [slots, ↓eval_tmp, List.getD_cons_zero, List.getD_cons_succ, List.set_cons_zero, List.set_cons_succ, Nat.reduceAdd, Nat.reduceSub, Nat.reduceMul, List.replicate, evK_go, reduceIte, Nat.reduceEqDiff, Nat.reduceLT, List.foldl_cons, List.foldl_nil]
        · refine Wkn.of [0, 1, 2] [some 0] ?_
          simp (implicitDefEqProofs := false) (dsimp := false) only [↓vcells_c, ↓vcells_l, ↓vcells_o, List.getD_cons_zero, List.getD_cons_succ, List.set_cons_zero, List.set_cons_succ, List.append_nil, List.map_nil, List.length_cons, List.length_nil, Bool.and_self, Nat.reduceAdd, Nat.reduceSub, Nat.reduceMul, Nat.zero_add, Nat.add_zero, List.replicate, evK_go, reduceIte, Nat.reduceEqDiff, Nat.reduceLT, and_self, Int.zero_add, List.foldl_cons, List.foldl_nil, slots, wkL_nil, wkL_cons, wkB_nil, wkB_cons, wkR_nil, wkR_some, wkV_j, wkV_d, wkV_o, wkV_p, frz_d, oK_zs, pK_z, pK_s, reduceCtorEq]
        · rintro ys x P hpx rfl
          obtain ⟨P', c, hP, rfl, hcc⟩ := prefix_map hpx
          obtain rfl : P = P' := ofNat_inj hP
          have h1 := fewK_len m L k
          have h2 := hcc.length_le
          have h3 := pts_len (fewB m L k)
          simp (implicitDefEqProofs := false) (dsimp := false) only [List.length_append, List.length_cons, List.length_nil] at h2
          simp (implicitDefEqProofs := false) (dsimp := false) only [slots, List.length_append, List.length_map, ↓optK_some, ↓rwK_mk_, ↓nthK_H, ↓nthH_zero, ↓aw_block, ↓aw_reg, ↓Qblk_n, ↓ops_nil, ↓ops_cons, ↓eval_tmp, ↓put_some, ↓put_none, ↓dK_d, ↓ldK_p, ↓op_move, ↓op_assign, ↓op_load, ↓op_build, ↓op_append, ↓op_store, ↓allD_nil, ↓allD_cons, ↓setBox_mk, ↓app_mk, ↓st_bx, ↓row_sz, ↓row_xs, kill_d, kill_j, kill_p, kill_o, ↓cells_c, ↓cells_s, ↓vcells_c, ↓vcells_j, ↓vcells_o, ↓one_i, ↓vone_o, ↓st_p, ↓ap_, ↓ap_o, ↓src_l, ↓bs_, ↓op_bs, ↓bsL_f, ↓stored_mk, ↓sl_nil, ↓sl_cons, ↓st_store_t, ↓sT_move, ↓sT_load, ↓sT_build, ↓sT_bs, ↓sT_call, ↓beq_some, ↓vsz_agg, ↓inO_1, ↓fm_nil, ↓fm_cons, ↓Qn_n, ↓Qrd_n, ↓back_mk, ↓ty3, ↓ty22, ↓sl22, ↓ty41, ↓zb41, ↓bd41, List.getD_cons_zero, List.getD_cons_succ, List.set_cons_zero, List.set_cons_succ, List.cons_append, List.nil_append, List.map_cons, List.map_nil, List.length_cons, List.length_nil, List.length_map, List.all_cons, List.all_nil, Bool.true_and, Bool.and_self, Bool.or_false, Nat.reduceAdd, Nat.reduceSub, Nat.reduceMul, Nat.zero_add, List.replicate, evK_go, reduceIte, decide_false, Nat.reduceEqDiff, Nat.reduceLT, and_self, true_and, Int.zero_add, List.drop_zero, List.foldl_cons, List.foldl_nil]
          refine ⟨by decide, rfl, ⟨fun _ => trivial, by omega, by omega⟩, P ++ [c], by simp, ?_⟩
          refine Wkn.of [0, 1, 2] [some 0] ?_
          simp (implicitDefEqProofs := false) (dsimp := false) only [List.map_append, List.length_append, List.append_assoc, lnN, Nat.add_assoc, ↓vcells_c, ↓vcells_l, ↓vcells_o, List.getD_cons_zero, List.getD_cons_succ, List.map_cons, List.map_nil, List.length_cons, List.length_nil, Bool.and_self, Nat.reduceAdd, Nat.reduceSub, Nat.reduceMul, Nat.zero_add, evK_go, reduceIte, Nat.reduceEqDiff, Nat.reduceLT, and_self, Int.zero_add, slots, wkL_nil, wkL_cons, wkB_nil, wkB_cons, wkR_nil, wkR_some, wkV_j, wkV_d, wkV_o, wkV_p, frz_d, oK_zs, pK_z, pK_s, reduceCtorEq]
        · rintro P hP
          obtain rfl : pts (fewB m L k) = P := ofNat_inj hP
          simp (implicitDefEqProofs := false) (dsimp := false) only [slots, ↓aw_reg, ↓Qseq_n, ↓Qblk_n, ↓ops_nil, ↓ops_cons, ↓eval_tmp, ↓eval_int, ↓put_some, ↓binE_i, ↓bi_add, ↓in_i64, ↓op_move, ↓op_bin, List.getD_cons_zero, List.getD_cons_succ, List.set_cons_zero, List.set_cons_succ, Nat.reduceAdd, Nat.reduceSub, Nat.reduceMul, List.replicate, evK_go, reduceIte, Nat.reduceEqDiff, Nat.reduceLT, List.foldl_cons, List.foldl_nil]
          refine ⟨by omega, k + 1, by omega, by omega, ?_⟩
          refine Wkn.of [0, 1] [some 0] ?_
          simp (implicitDefEqProofs := false) (dsimp := false) only [fewK_succ, List.length_append, List.length_map, ↓vcells_l, ↓vcells_o, List.getD_cons_zero, List.getD_cons_succ, List.length_cons, List.length_nil, List.length_map, Bool.and_self, Nat.reduceAdd, Nat.reduceSub, Nat.reduceMul, Nat.zero_add, evK_go, reduceIte, Nat.reduceEqDiff, Nat.reduceLT, and_self, Int.zero_add, Int.cast_ofNat_Int, Int.natCast_add, slots, wkL_nil, wkL_cons, wkB_nil, wkB_cons, wkR_nil, wkR_some, wkV_j, wkV_d, wkV_o, wkV_p, frz_d, oK_zs, pK_z, pK_s, reduceCtorEq]
    · obtain rfl : k = m := by omega
      simp (implicitDefEqProofs := false) (dsimp := false) only [eval_nilI, ↓optK_some, ↓rwK_mk_, ↓nthK_H, ↓nthH_zero, ↓aw_seq, ↓aw_exit, ↓aw_ret, ↓aw_reg, ↓Qseq_n, ↓Qseq_x, ↓Qblk_x, ↓Qret_r, ↓ops_nil, ↓ops_cons, ↓eval_tmp, ↓put_some, ↓ldK_p, ↓op_assign, ↓op_load, ↓td_d, ↓td_o, ↓ret_2, ↓row_xs, ↓vcells_o, ↓take_map, ↓ty22, List.getD_cons_zero, List.getD_cons_succ, List.set_cons_zero, List.set_cons_succ, Nat.reduceAdd, Nat.reduceSub, Nat.reduceMul, evK_go, reduceIte, decide_false, Nat.reduceEqDiff, Nat.reduceLT, Nat.lt_irrefl, List.drop_zero]
      rfl
theorem few_call (n : Int) (l : List (Int × Int)) (pure : Bool) (σ : St) (dst : Option Tmp) (K : St → Prop) : CallH Tryd.prog 54 [I .i64 n, .l (l.map lnD)] pure σ dst (.mk : Hid K) = OrH ((l.length < 2 ^ 62) ∧ (pure || D.flat (.t [.l ((fewR n l).map lnN), erD (topoE n l)])) = true ∧ evK (σ.put dst (.d (.t [.l ((fewR n l).map lnN), erD (topoE n l)]))) (.mk : Hid K)) (.mk : Hid (CallH Tryd.prog 54 [I .i64 n, .l (l.map lnD)] pure σ dst (.mk : Hid K))) := CallH.eq (few_spec n l) pure σ dst K
theorem few_callQ (n : Int) (l : List (Int × Int)) (pure : Bool) (C : V → Prop) : CallQ Tryd.prog 54 [I .i64 n, .l (l.map lnD)] pure (.mk : Hid C) = OrH ((l.length < 2 ^ 62) ∧ (pure || D.flat (.t [.l ((fewR n l).map lnN), erD (topoE n l)])) = true ∧ evK (V.d (.t [.l ((fewR n l).map lnN), erD (topoE n l)])) (.mk : Hid C)) (.mk : Hid (CallQ Tryd.prog 54 [I .i64 n, .l (l.map lnD)] pure (.mk : Hid C))) := CallQ.eq (few_spec n l) pure C
end Go.Proofs

namespace Go.Proofs
open Go.Aw
set_option linter.unusedSimpArgs false
set_option maxRecDepth 10000
def cfL : List (Int × Int) := [(0, 1), (1, 2), (0, 2)]
theorem cf1_spec  : FnD Tryd.prog 52 [I .i64 3, .l [.s [I .i64 0, I .i64 1], .s [I .i64 1, I .i64 2], .s [I .i64 0, I .i64 2]]] (.t [.l [.l [I .i64 1, I .i64 2], .l [I .i64 2], .l []], erD 0]) := by
  have h := call_spec 3 cfL (by decide)
  rw [show closeAll 3 cfL = [[1, 2], [2], []] by decide +kernel, show chk 3 cfL = 0 by decide +kernel] at h
  exact h
theorem cf1_call  (pure : Bool) (σ : St) (dst : Option Tmp) (K : St → Prop) : CallH Tryd.prog 52 [I .i64 3, .l [.s [I .i64 0, I .i64 1], .s [I .i64 1, I .i64 2], .s [I .i64 0, I .i64 2]]] pure σ dst (.mk : Hid K) = OrH ((pure || D.flat (.t [.l [.l [I .i64 1, I .i64 2], .l [I .i64 2], .l []], erD 0])) = true ∧ evK (σ.put dst (.d (.t [.l [.l [I .i64 1, I .i64 2], .l [I .i64 2], .l []], erD 0]))) (.mk : Hid K)) (.mk : Hid (CallH Tryd.prog 52 [I .i64 3, .l [.s [I .i64 0, I .i64 1], .s [I .i64 1, I .i64 2], .s [I .i64 0, I .i64 2]]] pure σ dst (.mk : Hid K))) := CallH.eq0 (cf1_spec ) pure σ dst K
theorem cf1_callQ  (pure : Bool) (C : V → Prop) : CallQ Tryd.prog 52 [I .i64 3, .l [.s [I .i64 0, I .i64 1], .s [I .i64 1, I .i64 2], .s [I .i64 0, I .i64 2]]] pure (.mk : Hid C) = OrH ((pure || D.flat (.t [.l [.l [I .i64 1, I .i64 2], .l [I .i64 2], .l []], erD 0])) = true ∧ evK (V.d (.t [.l [.l [I .i64 1, I .i64 2], .l [I .i64 2], .l []], erD 0])) (.mk : Hid C)) (.mk : Hid (CallQ Tryd.prog 52 [I .i64 3, .l [.s [I .i64 0, I .i64 1], .s [I .i64 1, I .i64 2], .s [I .i64 0, I .i64 2]]] pure (.mk : Hid C))) := CallQ.eq0 (cf1_spec ) pure C
theorem cf2_spec  : FnD Tryd.prog 54 [I .i64 3, .l [.s [I .i64 0, I .i64 1], .s [I .i64 1, I .i64 2], .s [I .i64 0, I .i64 2]]] (.t [.l [.s [I .i64 0, I .i64 1], .s [I .i64 1, I .i64 2]], erD 0]) := by
  have h := few_spec 3 cfL (by decide)
  rw [show fewR 3 cfL = [(0, 1), (1, 2)] by decide +kernel, show topoE 3 cfL = 0 by decide +kernel] at h
  exact h
theorem cf2_call  (pure : Bool) (σ : St) (dst : Option Tmp) (K : St → Prop) : CallH Tryd.prog 54 [I .i64 3, .l [.s [I .i64 0, I .i64 1], .s [I .i64 1, I .i64 2], .s [I .i64 0, I .i64 2]]] pure σ dst (.mk : Hid K) = OrH ((pure || D.flat (.t [.l [.s [I .i64 0, I .i64 1], .s [I .i64 1, I .i64 2]], erD 0])) = true ∧ evK (σ.put dst (.d (.t [.l [.s [I .i64 0, I .i64 1], .s [I .i64 1, I .i64 2]], erD 0]))) (.mk : Hid K)) (.mk : Hid (CallH Tryd.prog 54 [I .i64 3, .l [.s [I .i64 0, I .i64 1], .s [I .i64 1, I .i64 2], .s [I .i64 0, I .i64 2]]] pure σ dst (.mk : Hid K))) := CallH.eq0 (cf2_spec ) pure σ dst K
theorem cf2_callQ  (pure : Bool) (C : V → Prop) : CallQ Tryd.prog 54 [I .i64 3, .l [.s [I .i64 0, I .i64 1], .s [I .i64 1, I .i64 2], .s [I .i64 0, I .i64 2]]] pure (.mk : Hid C) = OrH ((pure || D.flat (.t [.l [.s [I .i64 0, I .i64 1], .s [I .i64 1, I .i64 2]], erD 0])) = true ∧ evK (V.d (.t [.l [.s [I .i64 0, I .i64 1], .s [I .i64 1, I .i64 2]], erD 0])) (.mk : Hid C)) (.mk : Hid (CallQ Tryd.prog 54 [I .i64 3, .l [.s [I .i64 0, I .i64 1], .s [I .i64 1, I .i64 2], .s [I .i64 0, I .i64 2]]] pure (.mk : Hid C))) := CallQ.eq0 (cf2_spec ) pure C
theorem cf3_spec  : FnD Tryd.prog 53 [.l [.l [I .i64 1, I .i64 2], .l [I .i64 2], .l []], .l [.l [I .i64 1, I .i64 2], .l [I .i64 2], .l []]] (Bo true) := by
  have h := erows_spec [[1, 2], [2], []] [[1, 2], [2], []] (by decide)
  exact h
theorem cf3_call  (pure : Bool) (σ : St) (dst : Option Tmp) (K : St → Prop) : CallH Tryd.prog 53 [.l [.l [I .i64 1, I .i64 2], .l [I .i64 2], .l []], .l [.l [I .i64 1, I .i64 2], .l [I .i64 2], .l []]] pure σ dst (.mk : Hid K) = OrH ((pure || D.flat (Bo true)) = true ∧ evK (σ.put dst (.d (Bo true))) (.mk : Hid K)) (.mk : Hid (CallH Tryd.prog 53 [.l [.l [I .i64 1, I .i64 2], .l [I .i64 2], .l []], .l [.l [I .i64 1, I .i64 2], .l [I .i64 2], .l []]] pure σ dst (.mk : Hid K))) := CallH.eq0 (cf3_spec ) pure σ dst K
theorem cf3_callQ  (pure : Bool) (C : V → Prop) : CallQ Tryd.prog 53 [.l [.l [I .i64 1, I .i64 2], .l [I .i64 2], .l []], .l [.l [I .i64 1, I .i64 2], .l [I .i64 2], .l []]] pure (.mk : Hid C) = OrH ((pure || D.flat (Bo true)) = true ∧ evK (V.d (Bo true)) (.mk : Hid C)) (.mk : Hid (CallQ Tryd.prog 53 [.l [.l [I .i64 1, I .i64 2], .l [I .i64 2], .l []], .l [.l [I .i64 1, I .i64 2], .l [I .i64 2], .l []]] pure (.mk : Hid C))) := CallQ.eq0 (cf3_spec ) pure C
theorem cf4_spec  : FnD Tryd.prog 55 [.l [.s [I .i64 0, I .i64 1], .s [I .i64 1, I .i64 2]], .l [.s [I .i64 0, I .i64 1], .s [I .i64 1, I .i64 2]]] (Bo true) := by
  have h := elines_spec [(0, 1), (1, 2)] [(0, 1), (1, 2)] (by decide)
  exact h
theorem cf4_call  (pure : Bool) (σ : St) (dst : Option Tmp) (K : St → Prop) : CallH Tryd.prog 55 [.l [.s [I .i64 0, I .i64 1], .s [I .i64 1, I .i64 2]], .l [.s [I .i64 0, I .i64 1], .s [I .i64 1, I .i64 2]]] pure σ dst (.mk : Hid K) = OrH ((pure || D.flat (Bo true)) = true ∧ evK (σ.put dst (.d (Bo true))) (.mk : Hid K)) (.mk : Hid (CallH Tryd.prog 55 [.l [.s [I .i64 0, I .i64 1], .s [I .i64 1, I .i64 2]], .l [.s [I .i64 0, I .i64 1], .s [I .i64 1, I .i64 2]]] pure σ dst (.mk : Hid K))) := CallH.eq0 (cf4_spec ) pure σ dst K
theorem cf4_callQ  (pure : Bool) (C : V → Prop) : CallQ Tryd.prog 55 [.l [.s [I .i64 0, I .i64 1], .s [I .i64 1, I .i64 2]], .l [.s [I .i64 0, I .i64 1], .s [I .i64 1, I .i64 2]]] pure (.mk : Hid C) = OrH ((pure || D.flat (Bo true)) = true ∧ evK (V.d (Bo true)) (.mk : Hid C)) (.mk : Hid (CallQ Tryd.prog 55 [.l [.s [I .i64 0, I .i64 1], .s [I .i64 1, I .i64 2]], .l [.s [I .i64 0, I .i64 1], .s [I .i64 1, I .i64 2]]] pure (.mk : Hid C))) := CallQ.eq0 (cf4_spec ) pure C
theorem cfact_spec  : FnD Tryd.prog 56 [] (Bo true) := by
  refine FnD.go Tryd.func56 rfl rfl Tryd.results56 Tryd.ntmps56 ?_
  simp (implicitDefEqProofs := false) (dsimp := false) only [↓aw_seq, ↓aw_reg, ↓Qseq_n, ↓ops_nil, ↓ops_cons, ↓eval_tmp, ↓eval_int, ↓eval_bool, ↓eval_func, ↓put_some, ↓dK_d, ↓op_move, ↓op_assign, ↓op_build, ↓op_call, isD_d, ↓fnK_f, ↓call_H, ↓callK_H, ↓allT_nil, ↓allT_cons, ↓allD_nil, ↓allD_cons, ↓td_d, ↓cells_c, ↓cells_s, ↓one_i, ↓bs_, ↓op_bs, ↓bsL_f, ↓stored_mk, ↓sl_nil, ↓sl_cons, ↓sT_assign, ↓sT_build, ↓sT_bs, ↓vsz_agg, ↓inO_3, ↓fm_nil, ↓fm_cons, ↓sl22, ↓ty41, ↓zb41, ↓bd41, List.getD_cons_zero, List.getD_cons_succ, List.set_cons_zero, List.set_cons_succ, List.cons_append, List.nil_append, List.append_nil, List.map_cons, List.map_nil, List.length_cons, List.length_nil, List.all_cons, List.all_nil, Bool.true_and, Bool.and_self, Bool.or_false, Nat.reduceAdd, Nat.reduceSub, Nat.reduceMul, Nat.zero_add, List.replicate, evK_go, reduceIte, Nat.reduceEqDiff, Nat.reduceLT, and_self, true_and, Int.zero_add]
  simp (implicitDefEqProofs := false) (dsimp := false) only [cf1_call, cf2_call, cf3_call, cf4_call, eval_nilI, ↓er_eql, ↓cdK_true, ↓gdK_t, ↓gval_mk, ↓gvL_zero, ↓gvL_succ, ↓nthK_H, ↓nthH_zero, ↓nthH_succ, ↓aw_seq, ↓aw_ret, ↓aw_reg, ↓Qseq_n, ↓Qret_r, ↓ops_nil, ↓ops_cons, ↓ops_guard, ↓eval_tmp, ↓eval_int, ↓eval_func, ↓put_some, ↓bK_b, ↓dK_d, ↓tK_t, ↓op_move, ↓op_assign, ↓op_pick, ↓op_bin, ↓op_extract, ↓op_build, ↓op_call, ↓orH_T, isD_d, ↓fnK_f, ↓call_H, ↓callK_H, ↓allT_nil, ↓allT_cons, ↓allD_nil, ↓allD_cons, ↓td_d, ↓ret_1, ↓st_tm, ↓cells_c, ↓cells_s, ↓cells_l, ↓one_i, ↓one_l, ↓bs_, ↓op_bs, ↓bsL_f, ↓stored_mk, ↓sl_nil, ↓sl_cons, ↓sT_move, ↓sT_assign, ↓sT_pick, ↓sT_bin, ↓sT_build, ↓sT_bs, ↓sT_call, ↓vsz_int, ↓vsz_slice, ↓vsz_agg, ↓inO_1, ↓inO_2, ↓inO_3, ↓fm_nil, ↓fm_cons, ↓ty3, ↓zb3, ↓sl22, ↓ty24, ↓sl24, ↓zb24, ↓ty41, ↓zb41, ↓bd41, ↓sl69, List.getD_cons_zero, List.getD_cons_succ, List.set_cons_zero, List.set_cons_succ, List.cons_append, List.nil_append, List.append_nil, List.map_cons, List.map_nil, List.length_cons, List.length_nil, List.all_cons, List.all_nil, Bool.and_true, Bool.true_and, Bool.and_self, Bool.true_or, Bool.or_false, Nat.reduceAdd, Nat.reduceSub, Nat.reduceMul, Nat.zero_add, evK_go, reduceIte, decide_true, Nat.reduceEqDiff, Nat.reduceLT, and_self, true_and, and_true, Int.zero_add]
  exact ⟨⟨rfl, by decide⟩, OrH.l (OrH.l (OrH.l (OrH.l ⟨by decide, by decide, ⟨rfl, by decide⟩, by decide, OrH.l (OrH.l ⟨rfl, by decide⟩)⟩)))⟩
theorem cfact_call  (pure : Bool) (σ : St) (dst : Option Tmp) (K : St → Prop) : CallH Tryd.prog 56 [] pure σ dst (.mk : Hid K) = OrH ((pure || D.flat (Bo true)) = true ∧ evK (σ.put dst (.d (Bo true))) (.mk : Hid K)) (.mk : Hid (CallH Tryd.prog 56 [] pure σ dst (.mk : Hid K))) := CallH.eq0 (cfact_spec ) pure σ dst K
theorem cfact_callQ  (pure : Bool) (C : V → Prop) : CallQ Tryd.prog 56 [] pure (.mk : Hid C) = OrH ((pure || D.flat (Bo true)) = true ∧ evK (V.d (Bo true)) (.mk : Hid C)) (.mk : Hid (CallQ Tryd.prog 56 [] pure (.mk : Hid C))) := CallQ.eq0 (cfact_spec ) pure C
end Go.Proofs

namespace Go.Proofs
open Go.Aw
set_option linter.unusedSimpArgs false
set_option maxRecDepth 10000
/-- What is known of where ways go. -/
structure CW (n : Int) (l : List (Int × Int)) (M : List (List Int)) (m : Nat) : Prop where
  n0 : n = (m : Int)
  hi : m ≤ 8
  llen : l.length ≤ 24
  len : M.length = m
  sz : ∀ i : Nat, (M.getD i default).length ≤ 64
  line : ∀ p ∈ l, ∃ x y : Nat, p = ((x : Int), (y : Int)) ∧ x < m ∧ y < m ∧ x ≠ y ∧ (y : Int) ∈ M.getD x default
  pt : ∀ (a : Nat) (b : Int), b ∈ M.getD a default → ∃ c : Nat, b = (c : Int) ∧ c < m ∧ a < m
  tr : ∀ (a b : Nat) (c : Int), (b : Int) ∈ M.getD a default → c ∈ M.getD b default → c ∈ M.getD a default
theorem closeW {n : Int} {l : List (Int × Int)} (hc : chk n l = 0) : CW n l (closeAll n l) n.toNat := by
  have ok := chk_ok hc
  have e : closeAll n l = (war n.toNat (natL l)).map ptsI := if_pos hc
  have hk : ∀ (i : Nat) (j : Int), j ∈ (closeAll n l).getD i default ↔ ∃ c : Nat, j = (c : Int) ∧ Path1 (natL l) i c := fun i j => by
    rw [e, mapP_get]
    constructor
    · intro h
      obtain ⟨c, hc1, rfl⟩ := List.mem_map.1 h
      exact ⟨c, rfl, (war_bit ok.good _ _).1 ((pts_mem _ _).1 hc1).2⟩
    · rintro ⟨c, rfl, h⟩
      have := (h.lt ok.good).2
      have := ok.hi
      exact (ptsI_mem _ _).2 ⟨by omega, (war_bit ok.good _ _).2 h⟩
  refine ⟨ok.n0, ok.hi, ok.len, by rw [e, List.length_map]; exact war_len ok.good, fun i => by rw [e, mapP_get]; exact ptsI_len _, fun p hp => ?_, fun a b hb => ?_, fun a b c hb hc => ?_⟩
  · have h1 := ok.rng p hp
    have h2 : natP p ∈ natL l := List.mem_map.2 ⟨p, hp, rfl⟩
    have h3 := ok.good _ h2
    refine ⟨p.1.toNat, p.2.toNat, ?_, h3.1, h3.2, ok.ne _ h2, ?_⟩
    · rw [Int.toNat_of_nonneg h1.1, Int.toNat_of_nonneg h1.2]
    · exact (hk _ _).2 ⟨_, rfl, p.2.toNat, h2, .refl⟩
  · obtain ⟨c, rfl, h⟩ := (hk _ _).1 hb
    have := h.lt ok.good
    exact ⟨c, rfl, this.2, this.1⟩
  · obtain ⟨x, hx, h1⟩ := (hk _ _).1 hb
    obtain ⟨y, rfl, h2⟩ := (hk _ _).1 hc
    cases Int.ofNat_inj.1 hx
    exact (hk _ _).2 ⟨y, rfl, h1.trans h2.path⟩
theorem closeW_more {n : Int} {l : List (Int × Int)} (hc : chk n l = 0) {a b : Nat} (hb : (b : Int) ∈ (closeAll n l).getD a default) (hab : a ≠ b) (h24 : l.length < 24) :
    chk n (l ++ [((a : Int), (b : Int))]) = 0 ∧ closeAll n (l ++ [((a : Int), (b : Int))]) = closeAll n l := by
  have ok := chk_ok hc
  have cw := closeW hc
  obtain ⟨c, h1, h2, h3⟩ := cw.pt a b hb
  cases Int.ofNat_inj.1 h1
  have n0 := ok.n0
  have h0 : chk n (l ++ [((a : Int), (b : Int))]) = 0 := by
    rw [chk_iff] at hc ⊢
    refine ⟨hc.1, by simp; omega, fun p hp => ?_⟩
    rcases List.mem_append.1 hp with hp | hp
    · exact hc.2.2 p hp
    · rw [List.mem_singleton.1 hp, lineErr_iff]
      exact ⟨⟨by simp, by simp; omega⟩, ⟨by simp, by simp; omega⟩, by simp; omega⟩
  refine ⟨h0, ?_⟩
  have ok2 := chk_ok h0
  have hb' := hb
  unfold closeAll
  rw [if_pos h0, if_pos hc]
  have e : natL (l ++ [((a : Int), (b : Int))]) = natL l ++ [(a, b)] := by simp [natL, natP]
  have hg2 := ok2.good
  rw [e] at hg2 ⊢
  have hp : Path1 (natL l) a b := by
    have e : closeAll n l = (war n.toNat (natL l)).map ptsI := if_pos hc
    rw [e, mapP_get] at hb
    exact (war_bit ok.good _ _).1 ((ptsI_mem _ _).1 hb).2
  have hw : war n.toNat (natL l ++ [(a, b)]) = war n.toNat (natL l) := by
    refine List.ext_getElem (by rw [war_len hg2, war_len ok.good]) fun i h1 h2 => ?_
    apply bits_eq
    intro j
    have g1 := war_bit hg2 i j
    have g2 := war_bit ok.good i j
    rw [List.getD_eq_getElem?_getD, List.getElem?_eq_getElem h1, Option.getD_some] at g1
    rw [List.getD_eq_getElem?_getD, List.getElem?_eq_getElem h2, Option.getD_some] at g2
    rw [Bool.eq_iff_iff, g1, g2]
    exact path1_more hp
  rw [hw]
end Go.Proofs

namespace Go.Proofs
open Go.Aw
set_option linter.unusedSimpArgs false
set_option maxRecDepth 10000
theorem close_mem {n : Int} {l : List (Int × Int)} (hc : chk n l = 0) (i j : Nat) : (j : Int) ∈ (closeAll n l).getD i default ↔ Path1 (natL l) i j := by
  have ok := chk_ok hc
  have e : closeAll n l = (war n.toNat (natL l)).map ptsI := if_pos hc
  rw [e, mapP_get, ptsI_mem, war_bit ok.good]
  exact ⟨fun h => h.2, fun h => ⟨by have := (h.lt ok.good).2; have := ok.hi; omega, h⟩⟩
theorem close_congr {n : Int} {l l' : List (Int × Int)} (hc : chk n l = 0) (hc' : chk n l' = 0) (h : ∀ i j, Path1 (natL l) i j ↔ Path1 (natL l') i j) : closeAll n l = closeAll n l' := by
  have ok := chk_ok hc
  have ok' := chk_ok hc'
  rw [show closeAll n l = (war n.toNat (natL l)).map ptsI from if_pos hc, show closeAll n l' = (war n.toNat (natL l')).map ptsI from if_pos hc']
  congr 1
  refine List.ext_getElem (by rw [war_len ok.good, war_len ok'.good]) fun i h1 h2 => ?_
  apply bits_eq
  intro j
  have g1 := war_bit ok.good i j
  have g2 := war_bit ok'.good i j
  rw [List.getD_eq_getElem?_getD, List.getElem?_eq_getElem h1, Option.getD_some] at g1
  rw [List.getD_eq_getElem?_getD, List.getElem?_eq_getElem h2, Option.getD_some] at g2
  rw [Bool.eq_iff_iff, g1, g2, h]
def intP (p : Nat × Nat) : Int × Int := ((p.1 : Int), (p.2 : Int))
def intL (l : List (Nat × Nat)) : List (Int × Int) := l.map intP
theorem lnN_int (l : List (Nat × Nat)) : l.map lnN = (intL l).map lnD := by unfold intL; rw [List.map_map]; rfl
theorem natL_int (l : List (Nat × Nat)) : natL (intL l) = l := by
  unfold natL intL
  rw [List.map_map]
  exact List.map_id _
theorem chk_sub {n : Int} {l l' : List (Int × Int)} (hc : chk n l = 0) (hl : l'.length ≤ 24) (h : ∀ p ∈ l', p ∈ l) : chk n l' = 0 := by
  rw [chk_iff] at hc ⊢
  exact ⟨hc.1, hl, fun p hp => hc.2.2 p (h p hp)⟩
theorem intL_sub {l : List (Int × Int)} {F : List (Nat × Nat)} (hl : ∀ p ∈ l, 0 ≤ p.1 ∧ 0 ≤ p.2) (h : ∀ p ∈ F, p ∈ natL l) : ∀ p ∈ intL F, p ∈ l := by
  intro p hp
  obtain ⟨q, hq, rfl⟩ := List.mem_map.1 hp
  obtain ⟨r, hr, rfl⟩ := List.mem_map.1 (h q hq)
  have := hl r hr
  have e : intP (natP r) = r := by
    show ((r.1.toNat : Int), (r.2.toNat : Int)) = r
    rw [Int.toNat_of_nonneg this.1, Int.toNat_of_nonneg this.2]
  rw [e]; exact hr
theorem closeM {n : Int} {l : List (Int × Int)} (hc : chk n l = 0) : (closeAll n l).length < 2 ^ 62 ∧ ∀ x ∈ closeAll n l, x.length < 2 ^ 62 := by
  have cw := closeW hc
  have h8 := cw.hi
  refine ⟨by rw [cw.len]; omega, fun x hx => ?_⟩
  obtain ⟨q, hq, rfl⟩ := List.mem_iff_getElem.1 hx
  have := cw.sz q
  rw [List.getD_eq_getElem?_getD, List.getElem?_eq_getElem hq, Option.getD_some] at this
  omega
structure FW (n : Int) (l F : List (Int × Int)) : Prop where
  chk0 : chk n l = 0
  chkF : chk n F = 0
  same : closeAll n F = closeAll n l
  len : F.length ≤ l.length
  sub : ∀ p ∈ F, p ∈ l
  need : ∀ k : Nat, k < F.length → chk n (butL F (k : Int)) = 0 ∧ closeAll n (butL F (k : Int)) ≠ closeAll n l
theorem fewW {n : Int} {l : List (Int × Int)} (h : topoE n l = 0) : FW n l (intL (fewR n l)) := by
  obtain ⟨hc, o, ho⟩ := topoE_zero h
  have ok := chk_ok hc
  have h8 := ok.hi
  have e : fewR n l = few n.toNat (natL l) := if_pos h
  rw [e]
  have ht := topo_some (by omega) ok.good ho
  have hlen : (intL (few n.toNat (natL l))).length ≤ l.length := by
    unfold intL; rw [List.length_map]
    have := few_len (n := n.toNat) (by omega) ok.good
    rw [natL_len] at this; exact this
  have hsub := intL_sub ok.rng (F := few n.toNat (natL l)) fun p hp => few_sub (by omega) ok.good hp
  have h24 := ok.len
  have hcF := chk_sub hc (by omega) hsub
  refine ⟨hc, hcF, close_congr hcF hc fun i j => by rw [natL_int]; exact few_path (by omega) ok.good ht, hlen, hsub, fun k hk => ?_⟩
  have hk' : k < (few n.toNat (natL l)).length := by simpa [intL] using hk
  have hcB : chk n (butL (intL (few n.toNat (natL l))) (k : Int)) = 0 := chk_sub hcF (by
    have := butK_len (intL (few n.toNat (natL l))) (k : Int) (intL (few n.toNat (natL l))).length
    unfold butL; omega) fun p hp => but_mem hp
  refine ⟨hcB, fun e => ?_⟩
  obtain ⟨i, j, h1, h2⟩ := few_need (by omega) ok.good hk'
  have h3 := (close_mem hc i j).2 h1
  rw [← e] at h3
  have h4 := (close_mem hcB i j).1 h3
  have e2 : natL (butL (intL (few n.toNat (natL l))) (k : Int)) = (few n.toNat (natL l)).eraseIdx k := by
    show (butL (intL (few n.toNat (natL l))) (k : Int)).map natP = _
    rw [← but_map]
    have e3 : (intL (few n.toNat (natL l))).map natP = few n.toNat (natL l) := natL_int _
    rw [e3, but_erase _ _ hk']
  rw [e2] at h4
  exact h2 h4
end Go.Proofs
