/- Part W 1 of what the proof of TopHalves stands on: what the functions of the program compute. -/
import Derived.Test.YtblhpmhfhpmifabM1
import Derived.Test.YtblhpmhfhpmifabProg
import Derived.KernelRfl
import Derived.RangeFuncKeeps
import Derived.RangeFuncLeaves
import Derived.Shelf.Abstract
import Derived.WalkKit
import Derived.OwnWalkIn
import Derived.TacticsInMore
import Derived.LoopNIn
import Derived.LoopIn
set_option linter.unusedVariables false
set_option linter.unusedSimpArgs false
namespace Go.Proofs
open Go.Aw
theorem ty3 (k : Bool → Nat → Prop) : tyK Try.prog 3 k = k false 1 := tyK_eq (by kernel_rfl) k
theorem zb3 (k : Value → Nat → Prop) : zbK Try.prog 3 k = k (.int .i64 0) 8 := zbK_eq (by kernel_rfl) k
theorem ty4 (k : Bool → Nat → Prop) : tyK Try.prog 4 k = k false 1 := tyK_eq (by kernel_rfl) k
theorem zb4 (k : Value → Nat → Prop) : zbK Try.prog 4 k = k (.bool false) 1 := zbK_eq (by kernel_rfl) k
theorem sl22 (k : TypeId → Prop) : slK Try.prog 22 k = k 28 := slK_eq (by kernel_rfl) k
theorem ty28 (k : Bool → Nat → Prop) : tyK Try.prog 28 k = k true 2 := tyK_eq (by kernel_rfl) k
theorem zb28 (k : Value → Nat → Prop) : zbK Try.prog 28 k = k (.agg #[.int .i64 0, .int .i64 0]) 16 := zbK_eq (by kernel_rfl) k
theorem fd28_0 (k : Nat → Nat → Prop) : fdK Try.prog 28 0 k = k 0 1 := fdK_eq (by kernel_rfl) k
theorem fd28_1 (k : Nat → Nat → Prop) : fdK Try.prog 28 1 k = k 1 1 := fdK_eq (by kernel_rfl) k
theorem bd28 (k : Nat → Nat → Prop) : bdK Try.prog 28 k = k 1 1 := bdK_eq (by kernel_rfl) k
theorem ty29 (k : Bool → Nat → Prop) : tyK Try.prog 29 k = k false 1 := tyK_eq (by kernel_rfl) k
theorem sl29 (k : TypeId → Prop) : slK Try.prog 29 k = k 3 := slK_eq (by kernel_rfl) k
theorem zb29 (k : Value → Nat → Prop) : zbK Try.prog 29 k = k (.slice none 0 0) 24 := zbK_eq (by kernel_rfl) k
theorem nc43 : ncI Try.prog 43 = true := by kernel_rfl
theorem ty45 (k : Bool → Nat → Prop) : tyK Try.prog 45 k = k false 1 := tyK_eq (by kernel_rfl) k
theorem sl45 (k : TypeId → Prop) : slK Try.prog 45 k = k 49 := slK_eq (by kernel_rfl) k
theorem zb45 (k : Value → Nat → Prop) : zbK Try.prog 45 k = k (.slice none 0 0) 24 := zbK_eq (by kernel_rfl) k
theorem ty49 (k : Bool → Nat → Prop) : tyK Try.prog 49 k = k false 1 := tyK_eq (by kernel_rfl) k
theorem zb49 (k : Value → Nat → Prop) : zbK Try.prog 49 k = k (.int .u64 0) 8 := zbK_eq (by kernel_rfl) k
theorem follows_mixed : Try.prog.follows .mixedOrders = true := by kernel_rfl
theorem ty59 (k : Bool → Nat → Prop) : tyK Try.prog 59 k = k false 1 := tyK_eq (by kernel_rfl) k
end Go.Proofs

namespace Go.Proofs
open Go.Aw
set_option linter.unusedSimpArgs false
set_option maxRecDepth 10000

theorem shr_and_one (s i : Nat) : (s / 2 ^ i &&& 1 = 1) ↔ s.testBit i = true := by
  rw [Nat.and_one_is_mod, Nat.testBit_eq_decide_div_mod_eq]
  simp

theorem below_spec (n : Nat) (hpre : n < 64) : FnD Try.prog 30 [I .i64 (n : Int)] (U (2 ^ n - 1)) := by
  refine FnD.go Try.func30 rfl rfl Try.results30 Try.ntmps30 ?_
  simp (implicitDefEqProofs := false) (dsimp := false) only [↓aw_seq, ↓aw_ret, ↓aw_reg, ↓Qseq_n, ↓Qret_r, ↓ops_nil, ↓ops_cons, ↓eval_tmp, ↓eval_int, ↓put_some, ↓binE_i, ↓binE_shl, ↓bi_sub, ↓bi_shl1, ↓in_u64, ↓op_move, ↓op_assign, ↓op_bin, ↓td_d, ↓ret_1, List.getD_cons_zero, List.getD_cons_succ, List.set_cons_zero, List.set_cons_succ, List.cons_append, List.nil_append, List.map_cons, List.map_nil, List.length_cons, List.length_nil, Nat.reduceAdd, Nat.reduceSub, Nat.reduceMul, Nat.zero_add, List.replicate, evK_go, reduceIte, Nat.reduceEqDiff, Nat.reduceLT, Int.zero_add]
  have hp : 2 ^ n ≤ 2 ^ 63 := Nat.pow_le_pow_right (by omega) (by omega)
  have h1 : 1 ≤ 2 ^ n := Nat.one_le_two_pow
  have e : ((2 ^ n : Nat) : Int) - 1 = ((2 ^ n - 1 : Nat) : Int) := by omega
  refine ⟨hpre, ?_⟩
  simp (implicitDefEqProofs := false) (dsimp := false) only [e, Bool.and_true, Bool.true_and, Nat.reduceAdd, Nat.reduceSub, Nat.reduceMul, evK_go, reduceIte, Nat.reduceEqDiff, Nat.reduceLT, true_and, and_true, Int.natCast_nonneg]
  omega
theorem below_call (n : Nat) (pure : Bool) (σ : St) (dst : Option Tmp) (K : St → Prop) : CallH Try.prog 30 [I .i64 (n : Int)] pure σ dst (.mk : Hid K) = OrH ((n < 64) ∧ (pure || D.flat (U (2 ^ n - 1))) = true ∧ evK (σ.put dst (.d (U (2 ^ n - 1)))) (.mk : Hid K)) (.mk : Hid (CallH Try.prog 30 [I .i64 (n : Int)] pure σ dst (.mk : Hid K))) := CallH.eq (below_spec n) pure σ dst K
theorem below_callQ (n : Nat) (pure : Bool) (C : V → Prop) : CallQ Try.prog 30 [I .i64 (n : Int)] pure (.mk : Hid C) = OrH ((n < 64) ∧ (pure || D.flat (U (2 ^ n - 1))) = true ∧ evK (V.d (U (2 ^ n - 1))) (.mk : Hid C)) (.mk : Hid (CallQ Try.prog 30 [I .i64 (n : Int)] pure (.mk : Hid C))) := CallQ.eq (below_spec n) pure C
theorem without_spec (s i : Nat) (hpre : s < 2 ^ 64 ∧ i < 64) : FnD Try.prog 31 [U s, I .i64 (i : Int)] (U (dif s (2 ^ i))) := by
  refine FnD.go Try.func31 rfl rfl Try.results31 Try.ntmps31 ?_
  simp (implicitDefEqProofs := false) (dsimp := false) only [↓aw_seq, ↓aw_ret, ↓aw_reg, ↓Qseq_n, ↓Qret_r, ↓ops_nil, ↓ops_cons, ↓eval_tmp, ↓eval_int, ↓put_some, ↓binE_i, ↓binE_shl, ↓bi_andNot, ↓bi_shl1, ↓op_move, ↓op_assign, ↓op_bin, ↓td_d, ↓ret_1, List.getD_cons_zero, List.getD_cons_succ, List.set_cons_zero, List.set_cons_succ, List.cons_append, List.nil_append, List.map_cons, List.map_nil, List.length_cons, List.length_nil, Bool.and_true, Nat.reduceAdd, Nat.reduceSub, Nat.reduceMul, Nat.zero_add, List.replicate, evK_go, reduceIte, Nat.reduceEqDiff, Nat.reduceLT, and_true, Int.zero_add]
  have hp : 2 ^ i ≤ 2 ^ 63 := Nat.pow_le_pow_right (by omega) (by omega)
  exact ⟨hpre.2, hpre.1, by omega⟩
theorem without_callQ (s i : Nat) (pure : Bool) (C : V → Prop) : CallQ Try.prog 31 [U s, I .i64 (i : Int)] pure (.mk : Hid C) = OrH ((s < 2 ^ 64 ∧ i < 64) ∧ (pure || D.flat (U (dif s (2 ^ i)))) = true ∧ evK (V.d (U (dif s (2 ^ i)))) (.mk : Hid C)) (.mk : Hid (CallQ Try.prog 31 [U s, I .i64 (i : Int)] pure (.mk : Hid C))) := CallQ.eq (without_spec s i) pure C
theorem with_spec (s i : Nat) (hpre : s < 2 ^ 64 ∧ i < 64) : FnD Try.prog 25 [U s, I .i64 (i : Int)] (U (s ||| 2 ^ i)) := by
  refine FnD.go Try.func25 rfl rfl Try.results25 Try.ntmps25 ?_
  simp (implicitDefEqProofs := false) (dsimp := false) only [↓aw_seq, ↓aw_ret, ↓aw_reg, ↓Qseq_n, ↓Qret_r, ↓ops_nil, ↓ops_cons, ↓eval_tmp, ↓eval_int, ↓put_some, ↓binE_i, ↓binE_shl, ↓bi_or, ↓bi_shl1, ↓op_move, ↓op_assign, ↓op_bin, ↓td_d, ↓ret_1, List.getD_cons_zero, List.getD_cons_succ, List.set_cons_zero, List.set_cons_succ, List.cons_append, List.nil_append, List.map_cons, List.map_nil, List.length_cons, List.length_nil, Bool.and_true, Nat.reduceAdd, Nat.reduceSub, Nat.reduceMul, Nat.zero_add, List.replicate, evK_go, reduceIte, Nat.reduceEqDiff, Nat.reduceLT, and_true, Int.zero_add]
  have hp : 2 ^ i ≤ 2 ^ 63 := Nat.pow_le_pow_right (by omega) (by omega)
  exact ⟨hpre.2, hpre.1, by omega⟩
theorem with_call (s i : Nat) (pure : Bool) (σ : St) (dst : Option Tmp) (K : St → Prop) : CallH Try.prog 25 [U s, I .i64 (i : Int)] pure σ dst (.mk : Hid K) = OrH ((s < 2 ^ 64 ∧ i < 64) ∧ (pure || D.flat (U (s ||| 2 ^ i))) = true ∧ evK (σ.put dst (.d (U (s ||| 2 ^ i)))) (.mk : Hid K)) (.mk : Hid (CallH Try.prog 25 [U s, I .i64 (i : Int)] pure σ dst (.mk : Hid K))) := CallH.eq (with_spec s i) pure σ dst K
theorem with_callQ (s i : Nat) (pure : Bool) (C : V → Prop) : CallQ Try.prog 25 [U s, I .i64 (i : Int)] pure (.mk : Hid C) = OrH ((s < 2 ^ 64 ∧ i < 64) ∧ (pure || D.flat (U (s ||| 2 ^ i))) = true ∧ evK (V.d (U (s ||| 2 ^ i))) (.mk : Hid C)) (.mk : Hid (CallQ Try.prog 25 [U s, I .i64 (i : Int)] pure (.mk : Hid C))) := CallQ.eq (with_spec s i) pure C
theorem hasS_spec (s i : Nat) (hpre : s < 2 ^ 64 ∧ i ≤ 64) : FnD Try.prog 27 [U s, I .i64 (i : Int)] (Bo (s.testBit i)) := by
  refine FnD.go Try.func27 rfl rfl Try.results27 Try.ntmps27 ?_
  simp (implicitDefEqProofs := false) (dsimp := false) only [↓aw_seq, ↓aw_ret, ↓aw_reg, ↓Qseq_n, ↓Qret_r, ↓ops_nil, ↓ops_cons, ↓eval_tmp, ↓eval_int, ↓eval_bool, ↓put_some, ↓binE_i, ↓binE_shr, ↓bi_shr, ↓op_move, ↓op_assign, ↓op_bin, ↓ret_1, List.getD_cons_zero, List.getD_cons_succ, List.set_cons_zero, List.set_cons_succ, List.cons_append, List.nil_append, List.map_cons, List.map_nil, List.length_cons, List.length_nil, Bool.and_true, Bool.true_and, Nat.reduceAdd, Nat.reduceSub, Nat.reduceMul, Nat.zero_add, Int.toNat_natCast, List.replicate, evK_go, reduceIte, Nat.reduceEqDiff, Nat.reduceLT, true_and, and_true, Int.zero_add, Int.natCast_nonneg]
  have hl : s / 2 ^ i < 2 ^ 64 := Nat.lt_of_le_of_lt (Nat.div_le_self _ _) hpre.1
  have e1 : ((1 : Int)) = ((1 : Nat) : Int) := rfl
  refine ⟨by omega, ?_⟩
  rw [e1]
  simp (implicitDefEqProofs := false) (dsimp := false) only [↓binE_i, ↓bi_eql, ↓bi_and, ↓td_d, Nat.reduceAdd, Nat.reduceSub, Nat.reduceMul, evK_go, reduceIte, Nat.reduceEqDiff, Nat.reduceLT, Int.cast_ofNat_Int]
  refine ⟨⟨hl, by omega⟩, ?_⟩
  have := shr_and_one s i
  have h2 : (((s / 2 ^ i &&& 1 : Nat) : Int) = 1) ↔ s.testBit i = true := by rw [← this]; omega
  simp (implicitDefEqProofs := false) (dsimp := false) only [Bo_eq, h2, Nat.reduceAdd, Nat.reduceSub, Nat.reduceMul, evK_go, reduceIte, Nat.reduceEqDiff, Nat.reduceLT]
  cases s.testBit i <;> rfl
theorem hasS_call (s i : Nat) (pure : Bool) (σ : St) (dst : Option Tmp) (K : St → Prop) : CallH Try.prog 27 [U s, I .i64 (i : Int)] pure σ dst (.mk : Hid K) = OrH ((s < 2 ^ 64 ∧ i ≤ 64) ∧ (pure || D.flat (Bo (s.testBit i))) = true ∧ evK (σ.put dst (.d (Bo (s.testBit i)))) (.mk : Hid K)) (.mk : Hid (CallH Try.prog 27 [U s, I .i64 (i : Int)] pure σ dst (.mk : Hid K))) := CallH.eq (hasS_spec s i) pure σ dst K
end Go.Proofs

namespace Go.Proofs
open Go.RowKit Go.Shelf
attribute [local go_sem] Oper.semAt_some

/-- The points of a set, rising. -/
def upto (s n : Nat) : List Int := ((List.range n).filter fun i => s.testBit i).map Int.ofNat

theorem upto_succ (s n : Nat) : upto s (n + 1) = if s.testBit n then upto s n ++ [(n : Int)] else upto s n := by
  unfold upto
  rw [List.range_succ, List.filter_append]
  cases h : s.testBit n <;> simp [h]

theorem upto_pre (s : Nat) {n m : Nat} (h : n ≤ m) : upto s n <+: upto s m := by
  induction m with
  | zero => obtain rfl : n = 0 := by omega
            exact List.prefix_refl _
  | succ m ih =>
    rcases Nat.lt_or_ge n (m + 1) with h' | h'
    · refine (ih (by omega)).trans ?_
      rw [upto_succ]
      split
      · exact List.prefix_append _ _
      · exact List.prefix_refl _
    · obtain rfl : n = m + 1 := by omega
      exact List.prefix_refl _
theorem upto_end (s : Nat) {n : Nat} (hn : n ≤ 64) (h : s / 2 ^ n = 0) : upto s n = ptsI s := by
  have hb : ∀ i, n ≤ i → s.testBit i = false := fun i hi => by
    have h1 : s < 2 ^ n := by
      rcases Nat.lt_or_ge s (2 ^ n) with h' | h'
      · exact h'
      · have := Nat.div_pos h' (Nat.two_pow_pos n); omega
    exact Nat.testBit_lt_two_pow (Nat.lt_of_lt_of_le h1 (Nat.pow_le_pow_right (by omega) hi))
  have key : ∀ m, n ≤ m → upto s m = upto s n := fun m hm => by
    induction m with
    | zero => obtain rfl : n = 0 := by omega
              rfl
    | succ m ih =>
      rcases Nat.lt_or_ge n (m + 1) with h' | h'
      · rw [upto_succ, hb m (by omega)]
        simpa using ih (by omega)
      · obtain rfl : n = m + 1 := by omega
        rfl
  exact (key 64 hn).symm

theorem hasS_in (s i : Nat) (hs : s < 2 ^ 64) (hi : i ≤ 64) (w : World) (hg : Go.Aw.Gl Try.prog w) : CallsIn Fence.wide 0 Try.prog 27 #[.int .u64 (s : Int), .int .i64 (i : Int)] w fun e w' => e = .returned (.bool (s.testBit i)) ∧ Go.Aw.Stp (fun _ => False) w w' := by
  have h := (hasS_spec s i ⟨hs, hi⟩).2 w (fun _ => False) [.int .u64 (s : Int), .int .i64 (i : Int)] hg (fun _ h => h.elim) ⟨rfl, fun k d v hd hv => by
    match k, hd, hv with
    | 0, hd, hv => simp at hd hv; subst hd; subst hv; exact .c _
    | 1, hd, hv => simp at hd hv; subst hd; subst hv; exact .c _⟩
  refine CallsIn.mono h ?_
  rintro e w' ⟨r, v, rfl, rfl, hb, hv⟩
  cases hv
  exact ⟨rfl, Go.Aw.Stp.below hb rfl⟩

set_option maxRecDepth 100000 in
set_option maxHeartbeats 1000000 in
theorem each1_in (l : Nat) (ad : Addr) (s : Nat) (hs : s < 2 ^ 64) (J : List Int → World → Prop) (Jx : World → Prop)
    (hJc : ∀ pre W, J pre W → W.cell? ad = some (.int .u64 (s : Int))) (hJg : ∀ pre W, J pre W → Go.Aw.Gl Try.prog W) (hJs : ∀ pre W W', J pre W → Go.Aw.Stp (fun _ => False) W W' → J pre W')
    (hY : ∀ pre x W1, J pre W1 → (pre ++ [x]) <+: ptsI s → YieldAt Fence.wide 0 Try.prog l #[.int .i64 x] W1 fun e W' => (e = .returned (.bool true) ∧ J (pre ++ [x]) W') ∨ (e = .returned (.bool false) ∧ Jx W'))
    (W : World) (h0 : J [] W) :
    CallsIn Fence.wide 0 Try.prog 40 #[.func (.yield l) #[] #[], .pointer (some ad)] W fun e W' => (∃ v, e = .returned v) ∧ (J (ptsI s) W' ∨ Jx W') := by
  refine callsIn_of_wp Try.func40 rfl trivial ?_ rfl
  simp (implicitDefEqProofs := false) (dsimp := false) only [Try.ntmps40, List.size_toArray, List.length_cons, List.length_nil, Nat.reduceAdd, Nat.reduceSub, Array.replicate_succ, Array.replicate_zero, List.push_toArray, List.append_toArray, List.nil_append, List.cons_append]
  gi_wp2
  gi_loopw [3] (fun p wr => ∃ i : Nat, p = .int .i64 (i : Int) ∧ i ≤ 64 ∧ J (upto s i) wr)
    (fun p _ => match p with | .int _ n => (64 - n).toNat | _ => 0)
  case atStart =>
    exact ⟨0, rfl, by omega, h0⟩
  case round =>
    obtain ⟨i, rfl, hi, hJ⟩ := hrel
    have hc := hJc _ _ hJ
    gi_wp2
    · refine ⟨trivial, rfl, (hasS_in s i hs hi _ (hJg _ _ hJ)).mono ?_⟩
      rintro e W2 ⟨rfl, hst⟩
      have hJ2 := hJs _ _ _ hJ hst
      have hz : ((s : Int) / 2 ^ i != 0) = true := by assumption
      have hi' : i < 64 := by
        rcases Nat.lt_or_ge i 64 with h' | h'
        · exact h'
        · obtain rfl : i = 64 := by omega
          have : s / 2 ^ 64 = 0 := Nat.div_eq_of_lt hs
          have e : ((s / 2 ^ 64 : Nat) : Int) = (s : Int) / 2 ^ 64 := by simp
          rw [← e, this] at hz
          simp at hz
      have hup := upto_succ s i
      cases hb : s.testBit i with
      | false =>
        rw [hb] at hup
        gi_wp2
        refine ⟨fun f h => (by cases h), ?_⟩
        gi_wp2
        go_roundw
        case rel => exact ⟨i + 1, by simp, by omega, by rw [hup]; exact hJ2⟩
        case measure => simp; omega
      | true =>
        rw [hb, if_pos rfl] at hup
        have hpre : upto s i ++ [(i : Int)] <+: ptsI s := hup ▸ upto_pre s hi'
        obtain ⟨fn, tmps, assign, body, hy, hR⟩ := hY _ _ _ hJ2 hpre
        gi_wp2
        refine ⟨rfl, hR.mono ?_⟩
        rintro e W3 (⟨rfl, hJ3⟩ | ⟨rfl, hJx3⟩)
        · gi_wp2
          go_roundw
          case rel => exact ⟨i + 1, by simp, by omega, by rw [hup]; exact hJ3⟩
          case measure => simp; omega
        · gi_wp2
          refine bodyPost_ret (results_none rfl _ _ _) rfl ?_
          exact ⟨⟨_, rfl⟩, .inr hJx3⟩
    · go_end0
      refine ⟨⟨_, rfl⟩, .inl ?_⟩
      have h : ((s : Int) / 2 ^ i != 0) = false := by assumption
      have : s / 2 ^ i = 0 := by
        have e : ((s / 2 ^ i : Nat) : Int) = (s : Int) / 2 ^ i := by simp
        simp at h
        omega
      rw [← upto_end s hi this]
      exact hJ
end Go.Proofs

namespace Go.Proofs
open Go.Aw
set_option linter.unusedSimpArgs false
set_option maxRecDepth 10000
theorem each_iter (s : Nat) (hs : s < 2 ^ 64) : IterA Try.prog 40 [.q [U s]] (ptsI s) := by
  refine ⟨fun args w => enters_of Try.func40 rfl rfl args w, fun w N us hul hur l J Jx W hJg hJN hJs _ hY h0 => ?_⟩
  obtain ⟨v, rfl⟩ : ∃ v, us = #[v] := Array.size_eq_one_iff.1 hul
  have hv := hur 0 _ v rfl rfl
  obtain ⟨ad, u, rfl, hN, hc, hd⟩ := hv.q_inv
  have h1 := hc 0 _ rfl
  have h2 := hd 0 _ rfl
  rw [show ad.add 0 = ad by simp [Addr.add]] at h1
  have h3 : u 0 = .int .u64 (s : Int) := by
    generalize u 0 = z at h2
    cases h2
    rfl
  rw [h3] at h1
  exact each1_in l ad s hs J Jx (fun pre W hJ => (World.cell?_of_block (hJN pre W hJ _ hN)).trans h1) hJg hJs hY W h0

theorem each_spec (s : Nat) : FnD Try.prog 26 [U s] (.f (.func 40) [.q [U s]]) := by
  refine FnD.go Try.func26 rfl rfl Try.results26 Try.ntmps26 ?_
  simp (implicitDefEqProofs := false) (dsimp := false) only [↓aw_seq, ↓aw_ret, ↓aw_reg, ↓Qseq_n, ↓Qret_r, ↓ops_nil, ↓ops_cons, ↓eval_tmp, ↓put_some, ↓capsK_nil, ↓capsK_cons, ↓op_assign, ↓op_func, ↓op_box, ↓boxK_d, ↓td_fp, ↓bq_nil, ↓bq_cons, ↓ret_1, ↓addBox_mk, ↓st_bx, ↓cells_c, ↓vcells_c, ↓one_i, ↓vone_d, List.getD_cons_zero, List.getD_cons_succ, List.set_cons_zero, List.set_cons_succ, List.cons_append, List.nil_append, List.map_cons, List.map_nil, List.length_cons, List.length_nil, List.all_cons, List.all_nil, Bool.and_self, Nat.reduceAdd, Nat.reduceSub, Nat.reduceMul, Nat.zero_add, List.replicate, evK_go, reduceIte, Nat.reduceEqDiff, Nat.reduceLT, and_self, Int.zero_add]
theorem each_call (s : Nat) (pure : Bool) (σ : St) (dst : Option Tmp) (K : St → Prop) : CallH Try.prog 26 [U s] pure σ dst (.mk : Hid K) = OrH ((pure || D.flat (.f (.func 40) [.q [U s]])) = true ∧ evK (σ.put dst (.d (.f (.func 40) [.q [U s]]))) (.mk : Hid K)) (.mk : Hid (CallH Try.prog 26 [U s] pure σ dst (.mk : Hid K))) := CallH.eq0 (each_spec s) pure σ dst K
theorem each_callQ (s : Nat) (pure : Bool) (C : V → Prop) : CallQ Try.prog 26 [U s] pure (.mk : Hid C) = OrH ((pure || D.flat (.f (.func 40) [.q [U s]])) = true ∧ evK (V.d (.f (.func 40) [.q [U s]])) (.mk : Hid C)) (.mk : Hid (CallQ Try.prog 26 [U s] pure (.mk : Hid C))) := CallQ.eq0 (each_spec s) pure C
theorem len_spec (s : Nat) (hpre : s < 2 ^ 64) : FnD Try.prog 34 [U s] (I .i64 ((pts s).length : Nat)) := by
  refine FnD.go Try.func34 rfl rfl Try.results34 Try.ntmps34 ?_
  simp (implicitDefEqProofs := false) (dsimp := false) only [↓aw_seq, ↓aw_reg, ↓Qseq_n, ↓ops_nil, ↓ops_cons, ↓eval_tmp, ↓eval_int, ↓eval_func, ↓put_some, ↓put_none, ↓op_move, ↓op_assign, ↓op_call, ↓op_alloc, ↓op_store, isD_d, ↓fnK_f, ↓call_H, ↓callK_H, ↓allT_nil, ↓allT_cons, ↓td_d, ↓addBox_mk, ↓setBox_mk, ↓st_bx, ↓vcells_c, ↓one_i, ↓vone_d, constV_i, ↓st_p, ↓ty3, ↓zb3, List.getD_cons_zero, List.getD_cons_succ, List.set_cons_zero, List.set_cons_succ, List.cons_append, List.nil_append, List.append_nil, List.map_cons, List.map_nil, List.length_cons, List.length_nil, List.all_cons, List.all_nil, Bool.true_and, Bool.and_self, Nat.reduceAdd, Nat.reduceSub, Nat.reduceMul, Nat.zero_add, List.replicate, evK_go, reduceIte, Nat.reduceEqDiff, Nat.reduceLT, and_self, true_and, Int.zero_add]
  simp (implicitDefEqProofs := false) (dsimp := false) only [each_call, ↓aw_block, ↓aw_rng, ↓Qseq_n, ↓ops_nil, ↓put_some, List.set_cons_zero, List.set_cons_succ, Bool.true_and, Bool.true_or, Nat.reduceAdd, Nat.reduceSub, Nat.reduceMul, evK_go, reduceIte, Nat.reduceEqDiff, Nat.reduceLT, true_and]
  refine OrH.l (OrH.l ?_)
  refine rangeW (slots 10 [(3, .p 0 0), (5, .d (.f (.func 40) [.q [U s]]))]) (fun k : Nat => [.d (I .i64 k)]) (fun _ => []) (fun pre k => k = pre.length) 0 (by simp [slots]) (each_iter s hpre) ?_ rfl ?_ ?_ ?_
  · simp (implicitDefEqProofs := false) (dsimp := false) only [slots, ↓eval_tmp, List.getD_cons_zero, List.getD_cons_succ, List.set_cons_zero, List.set_cons_succ, Nat.reduceAdd, Nat.reduceSub, Nat.reduceMul, List.replicate, evK_go, reduceIte, Nat.reduceEqDiff, Nat.reduceLT, List.foldl_cons, List.foldl_nil]
  · refine Wkn.of [0] [] ?_
    simp (implicitDefEqProofs := false) (dsimp := false) only [↓vcells_c, List.getD_cons_zero, List.set_cons_zero, List.set_cons_succ, List.length_cons, List.length_nil, Bool.and_self, Nat.reduceAdd, Nat.reduceSub, Nat.reduceMul, Nat.zero_add, List.replicate, evK_go, reduceIte, Nat.reduceEqDiff, Nat.reduceLT, and_self, Int.zero_add, List.foldl_cons, List.foldl_nil, Int.cast_ofNat_Int, slots, wkL_nil, wkL_cons, wkB_nil, wkB_cons, wkR_nil, wkV_j, wkV_d, wkV_p, frz_d, pK_z, reduceCtorEq]
  · rintro pre x k hpx rfl
    have hl := hpx.length_le
    simp (implicitDefEqProofs := false) (dsimp := false) only [ptsI, List.length_append, List.length_map, List.length_cons, List.length_nil] at hl
    have h64 : (pts s).length ≤ 64 := by
      have := List.length_filter_le (fun i => s.testBit i) (List.range 64)
      simpa [pts] using this
    simp (implicitDefEqProofs := false) (dsimp := false) only [slots, ↓nthK_H, ↓nthH_zero, ↓aw_block, ↓aw_skip, ↓aw_reg, ↓Qblk_n, ↓ops_nil, ↓ops_cons, ↓eval_tmp, ↓eval_int, ↓put_some, ↓put_none, ↓binE_i, ↓bi_add, ↓in_i64, ↓ldK_p, ↓op_load, ↓op_bin, ↓op_store, ↓setBox_mk, ↓st_bx, ↓vcells_c, ↓one_i, ↓vone_d, ↓st_p, ↓Qn_n, ↓Qrd_n, ↓back_mk, ↓ty3, List.getD_cons_zero, List.getD_cons_succ, List.set_cons_zero, List.set_cons_succ, List.length_cons, List.length_nil, List.all_cons, List.all_nil, Bool.true_and, Bool.and_self, Nat.reduceAdd, Nat.reduceSub, Nat.reduceMul, Nat.zero_add, List.replicate, evK_go, reduceIte, Nat.reduceEqDiff, Nat.reduceLT, and_self, true_and, Int.zero_add, List.foldl_cons, List.foldl_nil]
    refine ⟨by omega, ?_⟩
    refine ⟨pre.length + 1, by simp, ?_⟩
    refine Wkn.of [0] [] ?_
    simp (implicitDefEqProofs := false) (dsimp := false) only [↓vcells_c, List.getD_cons_zero, List.length_cons, List.length_nil, Bool.and_self, Nat.reduceAdd, Nat.reduceSub, Nat.reduceMul, Nat.zero_add, evK_go, reduceIte, Nat.reduceEqDiff, Nat.reduceLT, and_self, Int.zero_add, Int.cast_ofNat_Int, Int.natCast_add, slots, wkL_nil, wkL_cons, wkB_nil, wkB_cons, wkR_nil, wkV_j, wkV_d, wkV_p, frz_d, pK_z, reduceCtorEq]
  · rintro k rfl
    simp (implicitDefEqProofs := false) (dsimp := false) only [slots, ptsI, ↓nthK_H, ↓nthH_zero, ↓aw_seq, ↓aw_ret, ↓aw_reg, ↓Qseq_n, ↓Qblk_n, ↓Qret_r, ↓ops_nil, ↓ops_cons, ↓eval_tmp, ↓put_some, ↓ldK_p, ↓op_assign, ↓op_load, ↓td_d, ↓ret_1, ↓vcells_c, ↓ty3, List.getD_cons_zero, List.getD_cons_succ, List.set_cons_zero, List.set_cons_succ, List.length_map, Nat.reduceAdd, Nat.reduceSub, Nat.reduceMul, List.replicate, evK_go, reduceIte, Nat.reduceEqDiff, Nat.reduceLT, List.foldl_cons, List.foldl_nil]
theorem len_callQ (s : Nat) (pure : Bool) (C : V → Prop) : CallQ Try.prog 34 [U s] pure (.mk : Hid C) = OrH ((s < 2 ^ 64) ∧ (pure || D.flat (I .i64 ((pts s).length : Nat))) = true ∧ evK (V.d (I .i64 ((pts s).length : Nat))) (.mk : Hid C)) (.mk : Hid (CallQ Try.prog 34 [U s] pure (.mk : Hid C))) := CallQ.eq (len_spec s) pure C
end Go.Proofs

namespace Go.Proofs
open Go.Aw
set_option linter.unusedSimpArgs false
set_option maxRecDepth 10000
theorem appendSeq_spec (s : Nat) (hs : s < 2 ^ 64) : FnR Try.prog 43 [.c (.slice none 0 0), .f (.func 40) [.q [U s]]] 1 ((ptsI s).map (I .i64)) := by
  refine FnR.go Try.func43 rfl rfl Try.results43 Try.ntmps43 ?_
  simp (implicitDefEqProofs := false) (dsimp := false) only [↓aw_seq, ↓aw_block, ↓aw_rng, ↓aw_reg, ↓Qseq_n, ↓ops_nil, ↓ops_cons, ↓eval_tmp, ↓eval_nil, ↓put_some, ↓op_move, ↓op_assign, ↓op_box, ↓addBox_mk, ↓st_bx, ↓vcells_c, ↓vone_d, List.getD_cons_zero, List.getD_cons_succ, List.set_cons_zero, List.set_cons_succ, List.cons_append, List.nil_append, List.map_cons, List.map_nil, List.length_cons, List.length_nil, List.all_cons, List.all_nil, Bool.and_true, Nat.reduceAdd, Nat.reduceSub, Nat.reduceMul, Nat.zero_add, List.replicate, evK_go, reduceIte, Nat.reduceEqDiff, Nat.reduceLT, and_true, Int.zero_add]
  refine ⟨rfl, ?_⟩
  refine rangeW (slots 13 [(2, .p 0 0), (6, .d (.f (.func 40) [.q [U s]]))]) (fun l : List Int => [.o 0 0 l.length]) (fun l => [some ⟨1, l.map (I .i64)⟩]) (fun pre l => l = pre) [] (by simp [slots]) (each_iter s hs) ?_ rfl ?_ ?_ ?_
  · simp (implicitDefEqProofs := false) (dsimp := false) only [slots, ↓eval_tmp, List.getD_cons_zero, List.getD_cons_succ, List.set_cons_zero, List.set_cons_succ, Nat.reduceAdd, Nat.reduceSub, Nat.reduceMul, List.replicate, evK_go, reduceIte, Nat.reduceEqDiff, Nat.reduceLT, List.foldl_cons, List.foldl_nil]
  · refine Wkn.of [0] [none] ?_
    simp (implicitDefEqProofs := false) (dsimp := false) only [↓row_xs, ↓vcells_c, ↓vcells_o, List.getD_cons_zero, List.set_cons_zero, List.set_cons_succ, List.map_nil, List.length_cons, List.length_nil, Bool.and_self, Nat.reduceAdd, Nat.reduceSub, Nat.reduceMul, Nat.zero_add, List.replicate, evK_go, reduceIte, Nat.reduceEqDiff, Nat.reduceLT, and_self, Int.zero_add, List.foldl_cons, List.foldl_nil, slots, wkL_nil, wkL_cons, wkB_nil, wkB_cons, wkR_nil, wkR_new, wkV_j, wkV_d, nlK_c, wkV_o, wkV_p, frz_d, oK_zn, pK_z, reduceCtorEq]
  · rintro pre x l hpx rfl
    have hl := hpx.length_le
    have h64 := ptsI_len s
    simp (implicitDefEqProofs := false) (dsimp := false) only [List.length_append, List.length_cons, List.length_nil] at hl
    simp (implicitDefEqProofs := false) (dsimp := false) only [slots, ↓optK_some, ↓rwK_mk_, ↓nthK_H, ↓nthH_zero, ↓aw_block, ↓aw_reg, ↓Qblk_n, ↓ops_nil, ↓ops_cons, ↓eval_tmp, ↓put_some, ↓put_none, ↓dK_d, ↓ldK_p, ↓op_move, ↓op_assign, ↓op_load, ↓op_append, ↓op_store, ↓allD_nil, ↓allD_cons, ↓setBox_mk, ↓app_mk, ↓st_bx, ↓row_sz, ↓row_xs, kill_d, kill_j, kill_p, kill_o, ↓cells_c, ↓vcells_j, ↓vcells_o, ↓one_i, ↓vone_o, ↓st_p, ↓ap_, ↓ap_o, ↓src_l, ↓bs_, ↓op_bs, ↓bsL_f, ↓stored_mk, ↓sl_nil, ↓sl_cons, ↓st_store_t, ↓sT_move, ↓sT_load, ↓sT_bs, ↓sT_call, ↓beq_some, ↓vsz_int, ↓inO_1, ↓fm_nil, ↓fm_cons, ↓Qn_n, ↓Qrd_n, ↓back_mk, ↓ty3, ↓zb3, ↓ty29, ↓sl29, List.getD_cons_zero, List.getD_cons_succ, List.set_cons_zero, List.set_cons_succ, List.map_cons, List.map_nil, List.length_cons, List.length_nil, List.length_map, List.all_cons, List.all_nil, Bool.true_and, Bool.and_self, Bool.or_false, Nat.reduceAdd, Nat.reduceSub, Nat.reduceMul, Nat.zero_add, List.replicate, evK_go, reduceIte, decide_false, Nat.reduceEqDiff, Nat.reduceLT, and_self, true_and, Int.zero_add, List.drop_zero, List.foldl_cons, List.foldl_nil]
    refine ⟨by omega, ⟨by simp, by omega, by omega⟩, l ++ [x], rfl, ?_⟩
    refine Wkn.of [0] [some 0] ?_
    simp (implicitDefEqProofs := false) (dsimp := false) only [List.map_append, List.length_append, ↓vcells_o, List.getD_cons_zero, List.map_cons, List.map_nil, List.length_cons, List.length_nil, Bool.and_self, Nat.reduceAdd, Nat.reduceSub, Nat.reduceMul, Nat.zero_add, evK_go, reduceIte, Nat.reduceEqDiff, Nat.reduceLT, and_self, Int.zero_add, slots, wkL_nil, wkL_cons, wkB_nil, wkB_cons, wkR_nil, wkR_some, wkV_j, wkV_d, wkV_o, wkV_p, frz_d, oK_zs, pK_z, reduceCtorEq]
  · rintro l rfl
    simp (implicitDefEqProofs := false) (dsimp := false) only [slots, ↓optK_some, ↓rwK_mk_, ↓nthK_H, ↓nthH_zero, ↓aw_seq, ↓aw_ret, ↓aw_reg, ↓Qseq_n, ↓Qblk_n, ↓ops_nil, ↓ops_cons, ↓eval_tmp, ↓put_some, ↓ldK_p, ↓op_assign, ↓op_load, ↓row_sz, ↓row_xs, ↓vcells_o, ↓take_map, ↓Qrow_r, ↓rowK_o, ↓ty29, List.getD_cons_zero, List.getD_cons_succ, List.set_cons_zero, List.set_cons_succ, Bool.and_self, Nat.reduceAdd, Nat.reduceSub, Nat.reduceMul, List.replicate, evK_go, reduceIte, Nat.reduceEqDiff, Nat.reduceLT, and_self, List.foldl_cons, List.foldl_nil]
theorem collect_spec (s : Nat) (hs : s < 2 ^ 64) : FnR Try.prog 42 [.f (.func 40) [.q [U s]]] 1 ((ptsI s).map (I .i64)) := by
  refine FnR.go Try.func42 rfl rfl Try.results42 Try.ntmps42 ?_
  simp (implicitDefEqProofs := false) (dsimp := false) only [↓aw_seq, ↓aw_reg, ↓Qseq_n, ↓ops_nil, ↓ops_cons, ↓eval_tmp, ↓eval_nil, ↓eval_func, ↓put_some, ↓op_move, ↓op_assign, ↓op_call, isD_d, isD_nl, ↓fnK_f, ↓call_H, ↓callK_H, ↓allT_nil, ↓allT_cons, ↓td_d, ↓td_nl, List.getD_cons_zero, List.getD_cons_succ, List.set_cons_zero, List.set_cons_succ, List.cons_append, List.nil_append, List.append_nil, List.map_cons, List.map_nil, List.length_cons, List.length_nil, List.all_cons, List.all_nil, Bool.and_self, Nat.reduceAdd, Nat.reduceSub, Nat.reduceMul, Nat.zero_add, List.replicate, evK_go, reduceIte, Nat.reduceEqDiff, Nat.reduceLT, and_self, Int.zero_add]
  refine OrH.r ?_
  refine callNil rfl rfl (appendSeq_spec s hs) ?_
  rintro r rfl
  simp (implicitDefEqProofs := false) (dsimp := false) only [↓optK_some, ↓rwK_mk_, ↓aw_ret, ↓Qseq_n, ↓ops_nil, ↓ops_cons, ↓eval_tmp, ↓put_some, ↓op_assign, ↓addRow_mk, ↓st_rw, ↓row_sz, ↓row_xs, ↓take_map, ↓res_H, ↓resH_row, ↓Qrow_r, ↓rowK_o, List.getD_cons_zero, List.getD_cons_succ, List.set_cons_zero, List.set_cons_succ, List.nil_append, List.length_nil, List.length_map, Bool.and_self, Nat.reduceAdd, Nat.reduceSub, Nat.reduceMul, evK_go, reduceIte, Nat.reduceEqDiff, Nat.reduceLT, and_self]
theorem collect_call (s : Nat) (pure : Bool) (σ : St) (dst : Option Tmp) (K : St → Prop) : CallH Try.prog 42 [.f (.func 40) [.q [U s]]] pure σ dst (.mk : Hid K) = OrH ((s < 2 ^ 64) ∧ (pure || Res.flat (.row 1 ((ptsI s).map (I .i64)))) = true ∧ evK ((σ.addRow ⟨1, (ptsI s).map (I .i64)⟩).put dst (.o σ.rw.length 0 (List.length ((ptsI s).map (I .i64))))) (.mk : Hid K)) (.mk : Hid (CallH Try.prog 42 [.f (.func 40) [.q [U s]]] pure σ dst (.mk : Hid K))) := CallH.eqR (fun h => collect_spec s h) pure σ dst K
theorem list_spec (s : Nat) (hs : s < 2 ^ 64) : FnR Try.prog 39 [U s] 1 ((ptsI s).map (I .i64)) := by
  refine FnR.go Try.func39 rfl rfl Try.results39 Try.ntmps39 ?_
  simp (implicitDefEqProofs := false) (dsimp := false) only [↓aw_seq, ↓aw_reg, ↓Qseq_n, ↓ops_nil, ↓ops_cons, ↓eval_tmp, ↓eval_nil, ↓eval_func, ↓put_some, ↓op_move, ↓op_assign, ↓op_call, isD_d, ↓fnK_f, ↓call_H, ↓callK_H, ↓allT_nil, ↓allT_cons, ↓td_d, List.getD_cons_zero, List.getD_cons_succ, List.set_cons_zero, List.set_cons_succ, List.cons_append, List.nil_append, List.append_nil, List.map_cons, List.map_nil, List.length_cons, List.length_nil, List.all_cons, List.all_nil, Bool.and_self, Nat.reduceAdd, Nat.reduceSub, Nat.reduceMul, Nat.zero_add, List.replicate, evK_go, reduceIte, Nat.reduceEqDiff, Nat.reduceLT, and_self, Int.zero_add]
  simp (implicitDefEqProofs := false) (dsimp := false) only [each_call, collect_call, hs, ↓optK_some, ↓rwK_mk_, ↓aw_ret, ↓Qseq_n, ↓ops_nil, ↓ops_cons, ↓eval_tmp, ↓eval_func, ↓put_some, ↓op_assign, ↓op_call, ↓orH_T, isD_d, ↓fnK_f, ↓call_H, ↓callK_H, ↓allT_nil, ↓allT_cons, ↓td_d, ↓addRow_mk, ↓st_rw, ↓row_sz, ↓row_xs, ↓take_map, ↓Qrow_r, ↓rowK_o, List.getD_cons_zero, List.getD_cons_succ, List.set_cons_zero, List.set_cons_succ, List.nil_append, List.append_nil, List.length_nil, List.length_map, List.all_cons, List.all_nil, Bool.and_self, Bool.true_or, Nat.reduceAdd, Nat.reduceSub, Nat.reduceMul, evK_go, reduceIte, Nat.reduceEqDiff, Nat.reduceLT, and_self]
theorem list_callD (s : Nat) (pure : Bool) (σ : St) (dst : Option Tmp) (K : St → Prop) : CallH Try.prog 39 [U s] pure σ dst (.mk : Hid K) = OrH ((s < 2 ^ 64) ∧ (pure || D.flat (.l ((ptsI s).map (I .i64)))) = true ∧ evK (σ.put dst (.d (.l ((ptsI s).map (I .i64))))) (.mk : Hid K)) (.mk : Hid (CallH Try.prog 39 [U s] pure σ dst (.mk : Hid K))) := CallH.eq (fun h => ((fun h => list_spec s h) h).data) pure σ dst K
end Go.Proofs

namespace Go.Proofs
open Go.Aw
set_option linter.unusedSimpArgs false
set_option maxRecDepth 10000
/-- A line as data. -/
def lnD (p : Int × Int) : D := .s [I .i64 p.1, I .i64 p.2]
def inB (n lo hi : Int) : Bool := decide (lo ≤ n) && decide (n ≤ hi)
theorem within_spec (n low high : Int) : FnD Try.prog 36 [I .i64 n, I .i64 low, I .i64 high] (Bo (inB n low high)) := by
  refine FnD.go Try.func36 rfl rfl Try.results36 Try.ntmps36 ?_
  simp (implicitDefEqProofs := false) (dsimp := false) only [↓gdK_t, ↓gval_mk, ↓gvL_zero, ↓gvL_succ, ↓aw_seq, ↓aw_reg, ↓Qseq_n, ↓ops_nil, ↓ops_cons, ↓ops_guard, ↓eval_tmp, ↓eval_bool, ↓put_some, ↓binE_i, ↓bi_geq, ↓op_move, ↓op_assign, ↓op_bin, ↓st_tm, List.getD_cons_zero, List.getD_cons_succ, List.set_cons_zero, List.set_cons_succ, List.cons_append, List.nil_append, List.map_cons, List.map_nil, List.length_cons, List.length_nil, Nat.reduceAdd, Nat.reduceSub, Nat.reduceMul, Nat.zero_add, List.replicate, evK_go, reduceIte, Nat.reduceEqDiff, Nat.reduceLT, Int.zero_add]
  refine cdK_dec (fun h => ?_) (fun h => ?_) <;> simp (implicitDefEqProofs := false) (dsimp := false) only [h, inB, ↓cdK_true, ↓cdK_false, ↓gdK_t, ↓gval_mk, ↓gvL_zero, ↓gvL_succ, ↓aw_ret, ↓Qseq_n, ↓Qret_r, ↓ops_nil, ↓ops_cons, ↓ops_guard, ↓eval_tmp, ↓eval_bool, ↓put_some, ↓bK_b, ↓binE_i, ↓bi_leq, ↓op_move, ↓op_assign, ↓op_pick, ↓op_bin, ↓td_d, ↓ret_1, ↓st_tm, List.getD_cons_zero, List.getD_cons_succ, List.set_cons_zero, List.set_cons_succ, Bool.true_and, Bool.false_and, Nat.reduceAdd, Nat.reduceSub, Nat.reduceMul, evK_go, reduceIte, decide_true, decide_false, Nat.reduceEqDiff, Nat.reduceLT, true_and]
theorem within_call (n low high : Int) (pure : Bool) (σ : St) (dst : Option Tmp) (K : St → Prop) : CallH Try.prog 36 [I .i64 n, I .i64 low, I .i64 high] pure σ dst (.mk : Hid K) = OrH ((pure || D.flat (Bo (inB n low high))) = true ∧ evK (σ.put dst (.d (Bo (inB n low high)))) (.mk : Hid K)) (.mk : Hid (CallH Try.prog 36 [I .i64 n, I .i64 low, I .i64 high] pure σ dst (.mk : Hid K))) := CallH.eq0 (within_spec n low high) pure σ dst K
theorem all_spec (l : List Int) (low high : Int) (hpre : l.length < 2 ^ 62) : FnD Try.prog 17 [.l (l.map (I .i64)), I .i64 low, I .i64 high] (Bo (l.all fun x => inB x low high)) := by
  refine FnD.go Try.func17 rfl rfl Try.results17 Try.ntmps17 ?_
  simp (implicitDefEqProofs := false) (dsimp := false) only [↓aw_seq, ↓aw_block, ↓aw_loop, ↓aw_reg, ↓Qseq_n, ↓ops_nil, ↓ops_cons, ↓eval_tmp, ↓eval_int, ↓eval_bool, ↓put_some, ↓lenK_l, ↓op_move, ↓op_assign, ↓op_len, ↓sl29, List.getD_cons_zero, List.getD_cons_succ, List.set_cons_zero, List.set_cons_succ, List.cons_append, List.nil_append, List.map_cons, List.map_nil, List.length_cons, List.length_nil, List.length_map, Nat.reduceAdd, Nat.reduceSub, Nat.reduceMul, Nat.zero_add, List.replicate, evK_go, reduceIte, Nat.reduceEqDiff, Nat.reduceLT, Int.zero_add]
  refine loopW (fun k : Nat => { tm := slots 21 [(1, .d (I .i64 low)), (2, .d (I .i64 high)), (9, .d (.l (l.map (I .i64)))), (10, .d (I .i64 l.length)), (11, .d (I .i64 k))], bx := [], rw := [] })
    (fun k => k ≤ l.length ∧ (l.take k).all (fun x => inB x low high) = true) (fun k => l.length - k) 0 ⟨by simp, by simp⟩ ?_ ?_
  · refine Wkn.of [] [] ?_
    simp (implicitDefEqProofs := false) (dsimp := false) only [List.set_cons_zero, List.set_cons_succ, Bool.and_self, Nat.reduceAdd, Nat.reduceSub, Nat.reduceMul, List.replicate, evK_go, reduceIte, Nat.reduceEqDiff, Nat.reduceLT, and_self, List.foldl_cons, List.foldl_nil, Int.cast_ofNat_Int, slots, wkL_nil, wkL_cons, wkB_nil, wkR_nil, wkV_j, wkV_d, frz_d, reduceCtorEq]
  · rintro k ⟨h1, h2⟩
    simp (implicitDefEqProofs := false) (dsimp := false) only [slots, ↓aw_cond, ↓aw_seq, ↓aw_reg, ↓Qseq_n, ↓ops_nil, ↓ops_cons, ↓eval_tmp, ↓put_some, ↓bK_b, ↓binE_i, ↓bi_lss, ↓op_bin, List.getD_cons_zero, List.getD_cons_succ, List.set_cons_zero, List.set_cons_succ, Nat.reduceAdd, Nat.reduceSub, Nat.reduceMul, List.replicate, evK_go, reduceIte, Nat.reduceEqDiff, Nat.reduceLT, List.foldl_cons, List.foldl_nil, Int.ofNat_lt]
    refine cdK_dec (fun h => ?_) (fun h => ?_)
    · simp (implicitDefEqProofs := false) (dsimp := false) only [h, within_call, ↓cdK_not, ↓atK_H, ↓atH_map, ↓aw_cond, ↓aw_seq, ↓aw_block, ↓aw_skip, ↓aw_reg, ↓Qseq_n, ↓ops_nil, ↓ops_cons, ↓eval_tmp, ↓eval_func, ↓put_some, ↓bK_b, ↓iK_i, ↓ldK_q, ↓iaK_l, ↓op_move, ↓op_assign, ↓op_load, ↓op_not, ↓op_ia, ↓op_call, isD_d, ↓fnK_f, ↓call_H, ↓callK_H, ↓allT_nil, ↓allT_cons, ↓td_d, ↓cells_c, ↓hd_cons, ↓ty3, ↓sl29, List.getD_cons_zero, List.getD_cons_succ, List.set_cons_zero, List.set_cons_succ, List.append_nil, List.length_cons, List.length_nil, List.all_cons, List.all_nil, Bool.true_and, Bool.and_self, Bool.true_or, Nat.reduceAdd, Nat.reduceSub, Nat.reduceMul, Nat.zero_add, Int.toNat_natCast, evK_go, reduceIte, decide_true, Nat.reduceEqDiff, Nat.reduceLT, and_self, true_and, Int.zero_add, Int.natCast_nonneg]
      refine OrH.l (OrH.l ?_)
      refine cdK_split (fun hb => ?_) (fun hb => ?_)
      · simp (implicitDefEqProofs := false) (dsimp := false) only [↓aw_skip, ↓aw_reg, ↓Qseq_n, ↓Qblk_n, ↓ops_nil, ↓ops_cons, ↓eval_tmp, ↓eval_int, ↓put_some, ↓binE_i, ↓bi_add, ↓in_i64, ↓op_move, ↓op_bin, List.getD_cons_zero, List.getD_cons_succ, List.set_cons_zero, List.set_cons_succ, Nat.reduceAdd, Nat.reduceSub, Nat.reduceMul, evK_go, reduceIte, Nat.reduceEqDiff, Nat.reduceLT]
        refine ⟨by omega, k + 1, ⟨by omega, ?_⟩, by omega, ?_⟩
        · rw [take_succ_getD h, List.all_append, h2]; simp (implicitDefEqProofs := false) (dsimp := false) only [List.all_cons, List.all_nil, hb, Bool.and_self]
        · refine Wkn.of [] [] ?_
          simp (implicitDefEqProofs := false) (dsimp := false) only [List.set_cons_zero, List.set_cons_succ, Bool.and_self, Nat.reduceAdd, Nat.reduceSub, Nat.reduceMul, List.replicate, evK_go, reduceIte, Nat.reduceEqDiff, Nat.reduceLT, and_self, List.foldl_cons, List.foldl_nil, Int.cast_ofNat_Int, Int.natCast_add, slots, wkL_nil, wkL_cons, wkB_nil, wkR_nil, wkV_j, wkV_d, frz_d, reduceCtorEq]
      · simp (implicitDefEqProofs := false) (dsimp := false) only [all_false (p := fun x => inB x low high) h hb, ↓aw_seq, ↓aw_ret, ↓aw_reg, ↓Qseq_n, ↓Qseq_r, ↓Qblk_r, ↓Qret_r, ↓ops_nil, ↓ops_cons, ↓eval_tmp, ↓eval_bool, ↓put_some, ↓op_assign, ↓td_d, ↓ret_1, List.getD_cons_zero, List.getD_cons_succ, List.set_cons_zero, List.set_cons_succ, Nat.reduceAdd, Nat.reduceSub, Nat.reduceMul, evK_go, reduceIte, Nat.reduceEqDiff, Nat.reduceLT]
    · simp (implicitDefEqProofs := false) (dsimp := false) only [↓aw_seq, ↓aw_exit, ↓aw_ret, ↓aw_reg, ↓Qseq_n, ↓Qseq_x, ↓Qblk_x, ↓Qret_r, ↓ops_nil, ↓ops_cons, ↓eval_tmp, ↓eval_bool, ↓put_some, ↓op_assign, ↓td_d, ↓ret_1, List.getD_cons_zero, List.getD_cons_succ, List.set_cons_zero, List.set_cons_succ, Nat.reduceAdd, Nat.reduceSub, Nat.reduceMul, evK_go, reduceIte, Nat.reduceEqDiff, Nat.reduceLT]
      obtain rfl : k = l.length := by omega
      rw [List.take_length] at h2
      rw [h2]
end Go.Proofs

namespace Go.Proofs
open Go.Aw
set_option linter.unusedSimpArgs false
set_option maxRecDepth 10000
def lineErr (n : Int) (p : Int × Int) : Int := if (inB p.1 0 (n - 1) && inB p.2 0 (n - 1)) = false then 1 else if p.1 = p.2 then 3 else 0
def firstErr (f : Int × Int → Int) : List (Int × Int) → Int
  | [] => 0
  | p :: l => if f p = 0 then firstErr f l else f p
def chk (n : Int) (l : List (Int × Int)) : Int := if inB n 1 8 = false then 1 else if 24 < l.length then 4 else firstErr (lineErr n) l
/-- An error as data. -/
def erD (e : Int) : D := if e = 0 then .c .nilIface else .c (.iface 43 (.int .i64 e))
theorem erD_1 : erD 1 = .c (.iface 43 (.int .i64 1)) := rfl
theorem erD_3 : erD 3 = .c (.iface 43 (.int .i64 3)) := rfl
theorem erD_4 : erD 4 = .c (.iface 43 (.int .i64 4)) := rfl
theorem erD_0 : erD 0 = .c .nilIface := rfl
theorem eval_nilI (σ : St) : St.eval σ (.const .nilIface) = .d (.c .nilIface) := rfl
theorem firstErr_take {f : Int × Int → Int} {l : List (Int × Int)} {k : Nat} (h : k < l.length) (h0 : firstErr f (l.take k) = 0) : (f (l.getD k default) = 0 → firstErr f (l.take (k + 1)) = 0) ∧ (f (l.getD k default) ≠ 0 → firstErr f l = f (l.getD k default)) := by
  induction l generalizing k with
  | nil => simp at h
  | cons p l ih =>
    cases k with
    | zero => 
      constructor
      · intro h1
        have h1 : f p = 0 := h1
        simp [firstErr, h1]
      · intro h1
        have h1 : f p ≠ 0 := h1
        show (if f p = 0 then firstErr f l else f p) = f p
        rw [if_neg h1]
    | succ k =>
      have e : firstErr f (p :: l.take k) = 0 := h0
      by_cases hp : f p = 0
      · have e2 : firstErr f (l.take k) = 0 := by simpa [firstErr, hp] using e
        obtain ⟨g1, g2⟩ := ih (by simpa using h) e2
        constructor
        · intro h1
          show firstErr f (p :: l.take (k + 1)) = 0
          simp (implicitDefEqProofs := false) (dsimp := false) only [firstErr, hp, if_true]
          exact g1 h1
        · intro h1
          show firstErr f (p :: l) = _
          simp (implicitDefEqProofs := false) (dsimp := false) only [firstErr, hp, if_true]
          exact g2 h1
      · simp [firstErr, hp] at e
theorem all2_spec (a b low high : Int) : FnD Try.prog 17 [.l [I .i64 a, I .i64 b], I .i64 low, I .i64 high] (Bo (inB a low high && inB b low high)) := by
  have h := all_spec [a, b] low high (by simp)
  simpa using h
theorem all2_call (a b low high : Int) (pure : Bool) (σ : St) (dst : Option Tmp) (K : St → Prop) : CallH Try.prog 17 [.l [I .i64 a, I .i64 b], I .i64 low, I .i64 high] pure σ dst (.mk : Hid K) = OrH ((pure || D.flat (Bo (inB a low high && inB b low high))) = true ∧ evK (σ.put dst (.d (Bo (inB a low high && inB b low high)))) (.mk : Hid K)) (.mk : Hid (CallH Try.prog 17 [.l [I .i64 a, I .i64 b], I .i64 low, I .i64 high] pure σ dst (.mk : Hid K))) := CallH.eq0 (all2_spec a b low high) pure σ dst K
theorem check_spec (n : Int) (l : List (Int × Int)) (hpre : l.length < 2 ^ 62) : FnD Try.prog 37 [I .i64 n, .l (l.map lnD)] (erD (chk n l)) := by
  refine FnD.go Try.func37 rfl rfl Try.results37 Try.ntmps37 ?_
  simp (implicitDefEqProofs := false) (dsimp := false) only [within_call, eval_nilI, ↓cdK_not, ↓aw_cond, ↓aw_seq, ↓aw_reg, ↓Qseq_n, ↓ops_nil, ↓ops_cons, ↓eval_tmp, ↓eval_int, ↓eval_func, ↓put_some, ↓bK_b, ↓op_move, ↓op_assign, ↓op_not, ↓op_call, isD_d, ↓fnK_f, ↓call_H, ↓callK_H, ↓allT_nil, ↓allT_cons, ↓td_d, List.getD_cons_zero, List.getD_cons_succ, List.set_cons_zero, List.set_cons_succ, List.cons_append, List.nil_append, List.append_nil, List.map_cons, List.map_nil, List.length_cons, List.length_nil, List.all_cons, List.all_nil, Bool.true_and, Bool.and_self, Bool.true_or, Nat.reduceAdd, Nat.reduceSub, Nat.reduceMul, Nat.zero_add, List.replicate, evK_go, reduceIte, Nat.reduceEqDiff, Nat.reduceLT, and_self, true_and, Int.zero_add]
  refine OrH.l (OrH.l (cdK_split (fun hn => ?_) (fun hn => ?_)))
  rotate_left
  · simp (implicitDefEqProofs := false) (dsimp := false) only [chk, hn, nc43, erD_1, ↓aw_seq, ↓aw_ret, ↓aw_reg, ↓Qseq_n, ↓Qseq_r, ↓Qret_r, ↓ops_nil, ↓ops_cons, ↓eval_tmp, ↓eval_int, ↓put_some, ↓vK_c, ↓op_assign, ↓op_iface, ↓td_d, ↓ret_1, ↓nc43, List.getD_cons_zero, List.getD_cons_succ, List.set_cons_zero, List.set_cons_succ, Bool.and_self, Nat.reduceAdd, Nat.reduceSub, Nat.reduceMul, evK_go, reduceIte, Bool.not_false, Nat.reduceEqDiff, Nat.reduceLT, and_self]
  simp (implicitDefEqProofs := false) (dsimp := false) only [↓aw_cond, ↓aw_seq, ↓aw_skip, ↓aw_reg, ↓Qseq_n, ↓ops_nil, ↓ops_cons, ↓eval_tmp, ↓eval_int, ↓put_some, ↓bK_b, ↓lenK_l, ↓binE_i, ↓bi_gtr, ↓op_move, ↓op_bin, ↓op_len, ↓sl22, List.getD_cons_zero, List.getD_cons_succ, List.set_cons_zero, List.set_cons_succ, List.length_map, Nat.reduceAdd, Nat.reduceSub, Nat.reduceMul, evK_go, reduceIte, Nat.reduceEqDiff, Nat.reduceLT]
  refine cdK_dec (fun h24 => ?_) (fun h24 => ?_)
  · have h24' : 24 < l.length := by omega
    simp (implicitDefEqProofs := false) (dsimp := false) only [chk, hn, h24', nc43, ↓aw_seq, ↓aw_ret, ↓aw_reg, ↓Qseq_n, ↓Qseq_r, ↓Qret_r, ↓ops_nil, ↓ops_cons, ↓eval_tmp, ↓eval_int, ↓put_some, ↓vK_c, ↓op_assign, ↓op_iface, ↓td_d, ↓ret_1, ↓nc43, List.getD_cons_zero, List.getD_cons_succ, List.set_cons_zero, List.set_cons_succ, Bool.true_and, Nat.reduceAdd, Nat.reduceSub, Nat.reduceMul, evK_go, reduceIte, Bool.not_true, Nat.reduceEqDiff, Nat.reduceLT, true_and]
    simp (implicitDefEqProofs := false) (dsimp := false) only [Bool.true_eq_false, reduceIte, erD_4]
  have h24' : ¬ 24 < l.length := by omega
  have hc : chk n l = firstErr (lineErr n) l := by simp [chk, hn, h24']
  rw [hc]
  simp (implicitDefEqProofs := false) (dsimp := false) only [↓aw_seq, ↓aw_block, ↓aw_skip, ↓aw_loop, ↓aw_reg, ↓Qseq_n, ↓ops_nil, ↓ops_cons, ↓eval_tmp, ↓eval_int, ↓put_some, ↓lenK_l, ↓op_move, ↓op_len, ↓sl22, List.getD_cons_zero, List.getD_cons_succ, List.set_cons_zero, List.set_cons_succ, List.length_map, Nat.reduceAdd, Nat.reduceSub, Nat.reduceMul, evK_go, reduceIte, Nat.reduceEqDiff, Nat.reduceLT]
  have hn' : 1 ≤ n ∧ n ≤ 8 := by simpa [inB] using hn
  refine loopW (fun k : Nat => { tm := slots 38 [(0, .d (I .i64 n)), (15, .d (.l (l.map lnD))), (16, .d (I .i64 l.length)), (17, .d (I .i64 k))], bx := [], rw := [] })
    (fun k => k ≤ l.length ∧ firstErr (lineErr n) (l.take k) = 0) (fun k => l.length - k) 0 ⟨by simp, by simp [firstErr]⟩ ?_ ?_
  · refine Wkn.of [] [] ?_
    simp (implicitDefEqProofs := false) (dsimp := false) only [List.set_cons_zero, List.set_cons_succ, Bool.and_self, Nat.reduceAdd, Nat.reduceSub, Nat.reduceMul, List.replicate, evK_go, reduceIte, Nat.reduceEqDiff, Nat.reduceLT, and_self, List.foldl_cons, List.foldl_nil, Int.cast_ofNat_Int, slots, wkL_nil, wkL_cons, wkB_nil, wkR_nil, wkV_j, wkV_d, frz_d, reduceCtorEq]
  · rintro k ⟨h1, h2⟩
    simp (implicitDefEqProofs := false) (dsimp := false) only [slots, ↓aw_cond, ↓aw_seq, ↓aw_reg, ↓Qseq_n, ↓ops_nil, ↓ops_cons, ↓eval_tmp, ↓put_some, ↓bK_b, ↓binE_i, ↓bi_lss, ↓op_bin, List.getD_cons_zero, List.getD_cons_succ, List.set_cons_zero, List.set_cons_succ, Nat.reduceAdd, Nat.reduceSub, Nat.reduceMul, List.replicate, evK_go, reduceIte, Nat.reduceEqDiff, Nat.reduceLT, List.foldl_cons, List.foldl_nil, Int.ofNat_lt]
    refine cdK_dec (fun h => ?_) (fun h => ?_)
    · obtain ⟨g1, g2⟩ := firstErr_take h h2
      simp (implicitDefEqProofs := false) (dsimp := false) only [h, lnD, all2_call, ↓cdK_not, ↓atK_H, ↓atH_map, ↓nthK_H, ↓nthH_zero, ↓nthH_succ, ↓aw_cond, ↓aw_seq, ↓aw_block, ↓aw_skip, ↓aw_reg, ↓Qseq_n, ↓ops_nil, ↓ops_cons, ↓eval_tmp, ↓eval_int, ↓eval_func, ↓put_some, ↓put_none, ↓bK_b, ↓iK_i, ↓dK_d, ↓binE_i, ↓bi_sub, ↓in_i64, ↓ldK_q, ↓ldK_p, ↓faK_p, ↓iaK_l, ↓op_move, ↓op_load, ↓op_bin, ↓op_not, ↓op_fa, ↓op_ia, ↓op_call, ↓op_alloc, ↓op_store, isD_d, ↓fnK_f, ↓call_H, ↓callK_H, ↓allT_nil, ↓allT_cons, ↓allD_nil, ↓allD_cons, ↓td_d, ↓addBox_mk, ↓setBox_mk, ↓st_bx, ↓cells_c, ↓cells_s, ↓vcells_s, ↓one_i, ↓vone_d, constV_a, ↓st_p, ↓bs_, ↓op_bs, ↓bsL_f, ↓stored_mk, ↓sl_nil, ↓sl_cons, ↓sT_move, ↓sT_load, ↓sT_bin, ↓sT_un, ↓sT_fa, ↓sT_bs, ↓sT_call, ↓vsz_int, ↓inO_2, ↓fm_nil, ↓fm_cons, ↓ty3, ↓zb3, ↓sl22, ↓ty28, ↓zb28, ↓fd28_0, ↓fd28_1, ↓sl29, List.getD_cons_zero, List.getD_cons_succ, List.set_cons_zero, List.set_cons_succ, List.nil_append, List.append_nil, List.map_cons, List.map_nil, List.length_cons, List.length_nil, List.all_cons, List.all_nil, Bool.true_and, Bool.and_self, Bool.true_or, Bool.or_false, Nat.reduceAdd, Nat.reduceSub, Nat.reduceMul, Nat.zero_add, Nat.add_zero, Int.toNat_natCast, evK_go, reduceIte, decide_true, Nat.reduceEqDiff, Nat.reduceLT, and_self, true_and, Int.zero_add, List.take_succ_cons, List.take_nil, Int.natCast_nonneg]
      refine ⟨by omega, by omega, by omega, OrH.l (OrH.l (cdK_split (fun hb => ?_) (fun hb => ?_)))⟩
      · simp (implicitDefEqProofs := false) (dsimp := false) only [↓nthK_H, ↓nthH_zero, ↓nthH_succ, ↓aw_cond, ↓aw_seq, ↓aw_skip, ↓aw_reg, ↓Qseq_n, ↓ops_nil, ↓ops_cons, ↓eval_tmp, ↓put_some, ↓bK_b, ↓binE_i, ↓bi_eql, ↓ldK_p, ↓faK_p, ↓op_load, ↓op_bin, ↓op_fa, ↓vcells_s, ↓ty3, ↓fd28_0, ↓fd28_1, List.getD_cons_zero, List.getD_cons_succ, List.set_cons_zero, List.set_cons_succ, List.map_cons, List.map_nil, Bool.true_and, Nat.reduceAdd, Nat.reduceSub, Nat.reduceMul, Nat.zero_add, Nat.add_zero, evK_go, reduceIte, Nat.reduceEqDiff, Nat.reduceLT, true_and, Int.zero_add]
        refine cdK_dec (fun he => ?_) (fun he => ?_)
        · have e : lineErr n (l.getD k default) = 3 := by unfold lineErr; rw [hb, if_neg (by decide), if_pos he]
          rw [g2 (by rw [e]; decide), e]
          simp (implicitDefEqProofs := false) (dsimp := false) only [nc43, erD_3, ↓aw_seq, ↓aw_ret, ↓aw_reg, ↓Qseq_n, ↓Qseq_r, ↓Qblk_r, ↓Qret_r, ↓ops_nil, ↓ops_cons, ↓eval_tmp, ↓eval_int, ↓put_some, ↓vK_c, ↓op_assign, ↓op_iface, ↓td_d, ↓ret_1, ↓nc43, List.getD_cons_zero, List.getD_cons_succ, List.set_cons_zero, List.set_cons_succ, Bool.and_self, Nat.reduceAdd, Nat.reduceSub, Nat.reduceMul, evK_go, reduceIte, Nat.reduceEqDiff, Nat.reduceLT, and_self]
        · have e : lineErr n (l.getD k default) = 0 := by simp (implicitDefEqProofs := false) (dsimp := false) only [lineErr, hb, he, reduceIte, Bool.true_eq_false]
          simp (implicitDefEqProofs := false) (dsimp := false) only [↓aw_skip, ↓aw_reg, ↓Qseq_n, ↓Qblk_n, ↓ops_nil, ↓ops_cons, ↓eval_tmp, ↓eval_int, ↓put_some, ↓binE_i, ↓bi_add, ↓in_i64, ↓op_move, ↓op_bin, List.getD_cons_zero, List.getD_cons_succ, List.set_cons_zero, List.set_cons_succ, Nat.reduceAdd, Nat.reduceSub, Nat.reduceMul, evK_go, reduceIte, Nat.reduceEqDiff, Nat.reduceLT]
          refine ⟨by omega, k + 1, ⟨by omega, g1 e⟩, by omega, ?_⟩
          refine Wkn.of [] [] ?_
          simp (implicitDefEqProofs := false) (dsimp := false) only [List.set_cons_zero, List.set_cons_succ, Bool.and_self, Nat.reduceAdd, Nat.reduceSub, Nat.reduceMul, List.replicate, evK_go, reduceIte, Nat.reduceEqDiff, Nat.reduceLT, and_self, List.foldl_cons, List.foldl_nil, Int.cast_ofNat_Int, Int.natCast_add, slots, wkL_nil, wkL_cons, wkB_nil, wkR_nil, wkV_j, wkV_d, frz_d, reduceCtorEq]
      · have e : lineErr n (l.getD k default) = 1 := by simp (implicitDefEqProofs := false) (dsimp := false) only [lineErr, hb, reduceIte]
        rw [g2 (by rw [e]; decide), e]
        simp (implicitDefEqProofs := false) (dsimp := false) only [nc43, erD_1, ↓aw_seq, ↓aw_ret, ↓aw_reg, ↓Qseq_n, ↓Qseq_r, ↓Qblk_r, ↓Qret_r, ↓ops_nil, ↓ops_cons, ↓eval_tmp, ↓eval_int, ↓put_some, ↓vK_c, ↓op_assign, ↓op_iface, ↓td_d, ↓ret_1, ↓nc43, List.getD_cons_zero, List.getD_cons_succ, List.set_cons_zero, List.set_cons_succ, Bool.and_self, Nat.reduceAdd, Nat.reduceSub, Nat.reduceMul, evK_go, reduceIte, Nat.reduceEqDiff, Nat.reduceLT, and_self]
    · obtain rfl : k = l.length := by omega
      rw [List.take_length] at h2
      rw [h2]
      simp (implicitDefEqProofs := false) (dsimp := false) only [eval_nilI, erD_0, ↓aw_seq, ↓aw_exit, ↓aw_ret, ↓aw_reg, ↓Qseq_n, ↓Qseq_x, ↓Qblk_x, ↓Qret_r, ↓ops_nil, ↓ops_cons, ↓eval_tmp, ↓put_some, ↓op_assign, ↓td_d, ↓ret_1, List.getD_cons_zero, List.getD_cons_succ, List.set_cons_zero, List.set_cons_succ, Nat.reduceAdd, Nat.reduceSub, Nat.reduceMul, evK_go, reduceIte, decide_false, Nat.reduceEqDiff, Nat.reduceLT, Nat.lt_irrefl]
theorem check_call (n : Int) (l : List (Int × Int)) (pure : Bool) (σ : St) (dst : Option Tmp) (K : St → Prop) : CallH Try.prog 37 [I .i64 n, .l (l.map lnD)] pure σ dst (.mk : Hid K) = OrH ((l.length < 2 ^ 62) ∧ (pure || D.flat (erD (chk n l))) = true ∧ evK (σ.put dst (.d (erD (chk n l)))) (.mk : Hid K)) (.mk : Hid (CallH Try.prog 37 [I .i64 n, .l (l.map lnD)] pure σ dst (.mk : Hid K))) := CallH.eq (check_spec n l) pure σ dst K
end Go.Proofs

namespace Go.Proofs
open Go.Aw
set_option linter.unusedSimpArgs false
set_option maxRecDepth 10000
/-- A line of points as data. -/
def lnN (p : Nat × Nat) : D := .s [I .i64 (p.1 : Int), I .i64 (p.2 : Int)]
theorem out_spec (n : Nat) (l : List (Nat × Nat)) (hpre : n ≤ 64 ∧ l.length < 2 ^ 62 ∧ ∀ p ∈ l, p.1 < n ∧ p.2 < 64) : FnR Try.prog 38 [I .i64 (n : Int), .l (l.map lnN)] 1 ((outS n l).map U) := by
  obtain ⟨hn, hl, hp⟩ := hpre
  refine FnR.go Try.func38 rfl rfl Try.results38 Try.ntmps38 ?_
  simp (implicitDefEqProofs := false) (dsimp := false) only [↓aw_seq, ↓aw_block, ↓aw_loop, ↓aw_reg, ↓Qseq_n, ↓ops_nil, ↓ops_cons, ↓eval_tmp, ↓eval_int, ↓eval_nil, ↓put_some, ↓iK_i, ↓dK_d, ↓lenK_l, ↓op_move, ↓op_assign, ↓op_len, ↓op_make, ↓addRow_mk, ↓st_rw, ↓cells_c, ↓one_i, constV_i, ↓mk_, ↓vsz_int, ↓sl22, ↓sl45, ↓ty49, ↓zb49, List.getD_cons_zero, List.getD_cons_succ, List.set_cons_zero, List.set_cons_succ, List.cons_append, List.nil_append, List.map_cons, List.map_nil, List.length_cons, List.length_nil, List.length_map, List.all_cons, List.all_nil, Bool.and_true, Bool.true_and, Bool.and_self, Nat.reduceAdd, Nat.reduceSub, Nat.reduceMul, Nat.zero_add, Int.toNat_natCast, List.replicate, evK_go, reduceIte, Nat.reduceEqDiff, Nat.reduceLT, and_self, true_and, and_true, Int.zero_add, Int.natCast_nonneg]
  refine ⟨by omega, ?_⟩
  refine loopW (fun k : Nat => { tm := slots 30 [(5, .o 0 0 n), (10, .d (.l (l.map lnN))), (11, .d (I .i64 l.length)), (12, .d (I .i64 k))], bx := [], rw := [some ⟨1, (outS n (l.take k)).map U⟩] })
    (fun k => k ≤ l.length) (fun k => l.length - k) 0 (by simp) ?_ ?_
  · refine Wkn.of [] [some 0] ?_
    simp (implicitDefEqProofs := false) (dsimp := false) only [List.getD_cons_zero, List.set_cons_zero, List.set_cons_succ, Bool.and_true, Bool.true_and, Bool.and_self, Nat.reduceAdd, Nat.reduceSub, Nat.reduceMul, List.replicate, evK_go, reduceIte, Nat.reduceEqDiff, Nat.reduceLT, and_self, true_and, and_true, List.take_zero, List.foldl_cons, List.foldl_nil, Int.cast_ofNat_Int, slots, wkL_nil, wkL_cons, wkB_nil, wkR_nil, wkR_some, wkV_j, wkV_d, wkV_o, frz_d, oK_zs, reduceCtorEq, Option.some.injEq]
    simp [outS, U]
  · rintro k h1
    simp (implicitDefEqProofs := false) (dsimp := false) only [slots, ↓aw_cond, ↓aw_seq, ↓aw_reg, ↓Qseq_n, ↓ops_nil, ↓ops_cons, ↓eval_tmp, ↓put_some, ↓bK_b, ↓binE_i, ↓bi_lss, ↓op_bin, List.getD_cons_zero, List.getD_cons_succ, List.set_cons_zero, List.set_cons_succ, Nat.reduceAdd, Nat.reduceSub, Nat.reduceMul, List.replicate, evK_go, reduceIte, Nat.reduceEqDiff, Nat.reduceLT, List.foldl_cons, List.foldl_nil, Int.ofNat_lt]
    refine cdK_dec (fun h => ?_) (fun h => ?_)
    · simp (implicitDefEqProofs := false) (dsimp := false) only [h, lnN, with_callQ, ↓optK_some, ↓rwK_mk_, ↓atK_H, ↓atH_map, ↓nthK_H, ↓nthH_zero, ↓nthH_succ, ↓aw_seq, ↓aw_block, ↓aw_skip, ↓aw_reg, ↓aw_draw, ↓Qseq_n, ↓Qblk_n, ↓ops_nil, ↓ops_cons, ↓eval_tmp, ↓eval_int, ↓eval_func, ↓put_some, ↓put_none, ↓iK_i, ↓dK_d, ↓ev_move, ↓ev_load, ↓ev_fa, ↓ev_ia, ↓binE_i, ↓bi_add, ↓in_i64, ↓ldK_q, ↓ldK_p, ↓ldK_e, ↓faK_p, ↓iaK_l, ↓iaK_o, ↓op_move, ↓op_load, ↓op_bin, ↓op_ia, ↓op_alloc, ↓op_store, isD_d, ↓fnK_f, ↓callKQ_H, ↓allT_nil, ↓allT_cons, ↓td_d, ↓draw_H, ↓h_cons, ↓ldH_t, ↓ldH_n, ↓q_call, ↓q_move, ↓q_load, ↓q_fa, ↓q_ia, ↓il_move, ↓il_load, ↓il_fa, ↓il_ia, ↓il_call, ↓il_store, ↓addBox_mk, ↓setBox_mk, ↓setRow_mk, ↓st_bx, ↓row_sz, ↓row_xs, ↓cells_c, ↓cells_s, ↓vcells_s, ↓one_i, ↓vone_d, constV_a, ↓st_p, ↓st_e, ↓ty3, ↓sl22, ↓ty28, ↓zb28, ↓fd28_0, ↓fd28_1, ↓sl45, ↓ty49, List.getD_cons_zero, List.getD_cons_succ, List.set_cons_zero, List.set_cons_succ, List.nil_append, List.append_nil, List.map_cons, List.map_nil, List.length_cons, List.length_nil, List.all_cons, List.all_nil, Bool.true_and, Bool.and_self, Bool.true_or, Nat.reduceAdd, Nat.reduceSub, Nat.reduceMul, Nat.zero_add, Nat.add_zero, Int.toNat_natCast, evK_go, reduceIte, decide_true, Nat.reduceEqDiff, Nat.reduceLT, and_self, true_and, Int.zero_add, List.take_succ_cons, List.take_nil, Int.ofNat_lt, Int.natCast_nonneg]
      obtain ⟨h2, h3⟩ := hp _ (getD_mem h)
      have h4 := outS_len n (l.take k)
      have h5 : (outS n (l.take k)).getD (l.getD k default).1 default < 2 ^ 64 := outS_lt n (l.take k) (fun p hq => (hp p (List.mem_of_mem_take hq)).2) _ (getD_mem (by rw [h4]; exact h2))
      refine ⟨by omega, OrH.l ⟨DrawH.of follows_mixed (by kernel_rfl), h2, by rw [h4]; exact h2, OrH.l (OrH.l ⟨⟨h5, h3⟩, h2, ⟨by omega, by omega⟩, k + 1, by omega, by omega, ?_⟩)⟩⟩
      refine Wkn.of [] [some 0] ?_
      simp (implicitDefEqProofs := false) (dsimp := false) only [List.getD_cons_zero, List.set_cons_zero, List.set_cons_succ, Bool.and_true, Bool.true_and, Bool.and_self, Nat.reduceAdd, Nat.reduceSub, Nat.reduceMul, List.replicate, evK_go, reduceIte, Nat.reduceEqDiff, Nat.reduceLT, and_self, true_and, and_true, List.foldl_cons, List.foldl_nil, Int.cast_ofNat_Int, Int.natCast_add, slots, wkL_nil, wkL_cons, wkB_nil, wkR_nil, wkR_some, wkV_j, wkV_d, wkV_o, frz_d, oK_zs, reduceCtorEq, Option.some.injEq]
      rw [take_succ_getD h, outS_snoc, outF, List.map_set]
    · obtain rfl : k = l.length := by omega
      simp (implicitDefEqProofs := false) (dsimp := false) only [↓optK_some, ↓rwK_mk_, ↓aw_seq, ↓aw_exit, ↓aw_ret, ↓aw_reg, ↓Qseq_n, ↓Qseq_x, ↓Qblk_x, ↓ops_nil, ↓ops_cons, ↓eval_tmp, ↓put_some, ↓op_move, ↓op_assign, ↓row_sz, ↓row_xs, ↓Qrow_r, ↓rowK_o, List.getD_cons_zero, List.getD_cons_succ, List.set_cons_zero, List.set_cons_succ, Bool.true_and, Nat.reduceAdd, Nat.reduceSub, Nat.reduceMul, evK_go, reduceIte, decide_false, Nat.reduceEqDiff, Nat.reduceLT, true_and, Nat.lt_irrefl]
      simp (implicitDefEqProofs := false) (dsimp := false) only [List.take_length]
      have h4 := outS_len n l
      exact List.take_of_length_le (by simp [h4])
theorem out_call (n : Nat) (l : List (Nat × Nat)) (pure : Bool) (σ : St) (dst : Option Tmp) (K : St → Prop) : CallH Try.prog 38 [I .i64 (n : Int), .l (l.map lnN)] pure σ dst (.mk : Hid K) = OrH ((n ≤ 64 ∧ l.length < 2 ^ 62 ∧ ∀ p ∈ l, p.1 < n ∧ p.2 < 64) ∧ (pure || Res.flat (.row 1 ((outS n l).map U))) = true ∧ evK ((σ.addRow ⟨1, (outS n l).map U⟩).put dst (.o σ.rw.length 0 (List.length ((outS n l).map U)))) (.mk : Hid K)) (.mk : Hid (CallH Try.prog 38 [I .i64 (n : Int), .l (l.map lnN)] pure σ dst (.mk : Hid K))) := CallH.eqR (fun h => out_spec n l h) pure σ dst K
theorem out_callD (n : Nat) (l : List (Nat × Nat)) (pure : Bool) (σ : St) (dst : Option Tmp) (K : St → Prop) : CallH Try.prog 38 [I .i64 (n : Int), .l (l.map lnN)] pure σ dst (.mk : Hid K) = OrH ((n ≤ 64 ∧ l.length < 2 ^ 62 ∧ ∀ p ∈ l, p.1 < n ∧ p.2 < 64) ∧ (pure || D.flat (.l ((outS n l).map U))) = true ∧ evK (σ.put dst (.d (.l ((outS n l).map U)))) (.mk : Hid K)) (.mk : Hid (CallH Try.prog 38 [I .i64 (n : Int), .l (l.map lnN)] pure σ dst (.mk : Hid K))) := CallH.eq (fun h => ((fun h => out_spec n l h) h).data) pure σ dst K
end Go.Proofs

namespace Go.Proofs
open Go.Aw
set_option linter.unusedSimpArgs false
set_option maxRecDepth 10000
/-- Numbers as data. -/
def nD (n : Nat) : D := I .i64 (n : Int)
theorem with0_spec (i : Nat) (hpre : i < 64) : FnD Try.prog 25 [I .u64 0, I .i64 (i : Int)] (U (2 ^ i)) := by
  have h := with_spec 0 i ⟨by decide, hpre⟩
  rw [Nat.zero_or] at h
  exact h
theorem with0_call (i : Nat) (pure : Bool) (σ : St) (dst : Option Tmp) (K : St → Prop) : CallH Try.prog 25 [I .u64 0, I .i64 (i : Int)] pure σ dst (.mk : Hid K) = OrH ((i < 64) ∧ (pure || D.flat (U (2 ^ i))) = true ∧ evK (σ.put dst (.d (U (2 ^ i)))) (.mk : Hid K)) (.mk : Hid (CallH Try.prog 25 [I .u64 0, I .i64 (i : Int)] pure σ dst (.mk : Hid K))) := CallH.eq (with0_spec i) pure σ dst K
/-- The loop's state: seen, the row's head, what is to do. -/
structure RS where
  s : Nat
  pre : List Nat
  q : List Nat
structure RI (a w : Nat) (next : List Nat) (st : RS) : Prop where
  lt : st.s < 2 ^ 64
  start : st.s.testBit a = true
  ql : st.q.length ≤ cnt st.s
  sound : ∀ j, st.s.testBit j = true → Rch next w a j
  inq : ∀ j ∈ st.q, st.s.testBit j = true
  done : ∀ b, st.s.testBit b = true → b ∉ st.q → ∀ c, (next.getD b default).testBit c = true → w.testBit c = true → st.s.testBit c = true
set_option maxHeartbeats 1000000 in
theorem reach_spec (a w : Nat) (next : List Nat) (hpre : a < next.length ∧ next.length ≤ 64 ∧ w < 2 ^ next.length ∧ (∀ x ∈ next, x < 2 ^ 64)) : FnD Try.prog 35 [I .i64 (a : Int), .l (next.map U), U w] (U (reach next w a)) := by
  obtain ⟨ha, hlen, hw, hn⟩ := hpre
  have ha' : a < 64 := by omega
  have hw' : w < 2 ^ 64 := Nat.lt_of_lt_of_le hw (Nat.pow_le_pow_right (by omega) hlen)
  refine FnD.go Try.func35 rfl rfl Try.results35 Try.ntmps35 ?_
  simp (implicitDefEqProofs := false) (dsimp := false) only [with0_call, ha', ↓aw_seq, ↓aw_block, ↓aw_loop, ↓aw_reg, ↓Qseq_n, ↓ops_nil, ↓ops_cons, ↓eval_tmp, ↓eval_int, ↓eval_func, ↓put_some, ↓put_none, ↓dK_d, ↓op_move, ↓op_assign, ↓op_call, ↓op_alloc, ↓op_store, isD_d, ↓fnK_f, ↓call_H, ↓callK_H, ↓allT_nil, ↓allT_cons, ↓allD_nil, ↓allD_cons, ↓td_d, ↓addBox_mk, ↓addRow_mk, ↓setBox_mk, ↓st_bx, ↓st_rw, ↓cells_c, ↓vcells_c, ↓vcells_nl, ↓vcells_o, ↓one_i, ↓vone_d, ↓vone_o, constV_i, constV_n, ↓st_p, ↓bs_, ↓op_bs, ↓bsL_t, ↓stored_mk, ↓sl_nil, ↓sl_cons, ↓st_store_t, ↓sT_move, ↓sT_bs, ↓sT_alloc, ↓beq_some, ↓vsz_int, ↓inO_1, ↓fm_nil, ↓fm_cons, ↓ty3, ↓zb3, ↓ty29, ↓sl29, ↓zb29, ↓ty49, ↓zb49, List.getD_cons_zero, List.getD_cons_succ, List.set_cons_zero, List.set_cons_succ, List.cons_append, List.nil_append, List.append_nil, List.map_cons, List.map_nil, List.length_cons, List.length_nil, List.all_cons, List.all_nil, Bool.true_and, Bool.and_self, Bool.or_true, Bool.true_or, Bool.or_false, Nat.reduceAdd, Nat.reduceSub, Nat.reduceMul, Nat.zero_add, List.replicate, evK_go, reduceIte, decide_true, Nat.reduceEqDiff, Nat.reduceLT, and_self, true_and, Int.zero_add]
  refine OrH.l (OrH.l ⟨by omega, ?_⟩)
  refine loopW (fun st : RS => { tm := slots 42 [(1, .d (.l (next.map U))), (2, .d (U w)), (7, .p 0 0), (8, .p 1 0)], bx := [.d (U st.s), .o 0 st.pre.length st.q.length], rw := [some ⟨1, (st.pre ++ st.q).map nD⟩] })
    (RI a w next) (fun st => 2 * (64 - cnt st.s) + st.q.length) ⟨2 ^ a, [], [a]⟩ ?_ ?_ ?_
  · refine ⟨Nat.pow_lt_pow_right (by omega) ha', Nat.testBit_two_pow_self, ?_, fun j hj => ?_, fun j hj => ?_, fun x hx hxq c h1 h2 => ?_⟩
    · exact List.countP_pos_iff.2 ⟨a, by simpa using ha', Nat.testBit_two_pow_self⟩
    · by_cases hj' : j = a
      · subst hj'; exact .refl
      · simp only at hj; rw [Nat.testBit_two_pow_of_ne (fun e => hj' e.symm)] at hj; cases hj
    · simp at hj; subst hj; exact Nat.testBit_two_pow_self
    · by_cases hj' : x = a
      · exact absurd (by simp [hj']) hxq
      · simp only at hx; rw [Nat.testBit_two_pow_of_ne (fun e => hj' e.symm)] at hx; cases hx
  · refine Wkn.of [0, 1] [some 0] ?_
    simp (implicitDefEqProofs := false) (dsimp := false) only [nD, ↓vcells_c, ↓vcells_o, List.getD_cons_zero, List.getD_cons_succ, List.set_cons_zero, List.set_cons_succ, List.nil_append, List.map_cons, List.map_nil, List.length_cons, List.length_nil, Bool.and_self, Nat.reduceAdd, Nat.reduceSub, Nat.reduceMul, Nat.zero_add, List.replicate, evK_go, reduceIte, Nat.reduceEqDiff, Nat.reduceLT, and_self, Int.zero_add, List.foldl_cons, List.foldl_nil, slots, wkL_nil, wkL_cons, wkB_nil, wkB_cons, wkR_nil, wkR_some, wkV_j, wkV_d, wkV_o, wkV_p, frz_d, oK_zs, pK_z, pK_s, reduceCtorEq]
  · rintro ⟨s, pre, q⟩ hI
    simp (implicitDefEqProofs := false) (dsimp := false) only [slots, ↓optK_some, ↓rwK_mk_, ↓nthK_H, ↓nthH_zero, ↓aw_cond, ↓aw_seq, ↓aw_reg, ↓Qseq_n, ↓ops_nil, ↓ops_cons, ↓eval_tmp, ↓eval_int, ↓put_some, ↓bK_b, ↓lenK_o, ↓binE_i, ↓bi_gtr, ↓ldK_p, ↓op_load, ↓op_bin, ↓op_len, ↓vcells_o, ↓ty29, ↓sl29, List.getD_cons_zero, List.getD_cons_succ, List.set_cons_zero, List.set_cons_succ, Nat.reduceAdd, Nat.reduceSub, Nat.reduceMul, List.replicate, evK_go, reduceIte, Nat.reduceEqDiff, Nat.reduceLT, List.foldl_cons, List.foldl_nil]
    refine cdK_dec (fun h => ?_) (fun h => ?_)
    · cases q with
      | nil => simp at h
      | cons b q =>
        simp (implicitDefEqProofs := false) (dsimp := false) only [List.length_cons, List.map_append, List.map_cons, nD, ↓optK_some, ↓rwK_mk_, ↓atK_H, ↓atH_map, ↓atH_appmap, ↓nthK_H, ↓nthH_zero, ↓aw_seq, ↓aw_block, ↓aw_skip, ↓aw_reg, ↓aw_draw, ↓Qseq_n, ↓ops_nil, ↓ops_cons, ↓eval_tmp, ↓eval_int, ↓eval_func, ↓put_some, ↓put_none, ↓iK_i, ↓ev_move, ↓ev_load, ↓ev_bin, ↓ev_ia, ↓optI_none, ↓optI_some, ↓binE_i, ↓bi_and, ↓bi_andNot, ↓ldK_q, ↓ldK_p, ↓ldK_e, ↓iaK_l, ↓iaK_o, ↓sliK_o, ↓op_assign, ↓op_load, ↓op_ia, ↓op_slice, ↓op_store, isD_d, ↓fnK_f, ↓callKQ_H, ↓allT_nil, ↓allT_cons, ↓td_d, ↓draw_H, ↓h_cons, ↓ldH_n, ↓q_call, ↓q_move, ↓q_load, ↓q_bin, ↓q_ia, ↓il_move, ↓il_load, ↓il_bin, ↓il_ia, ↓il_call, ↓setBox_mk, ↓st_bx, ↓row_sz, ↓row_xs, ↓cells_c, ↓vcells_c, ↓vcells_o, ↓vone_o, ↓st_p, ↓hd_cons, ↓ty3, ↓ty29, ↓sl29, ↓sl45, ↓ty49, List.getD_cons_zero, List.getD_cons_succ, List.set_cons_zero, List.set_cons_succ, List.append_nil, List.map_cons, List.length_cons, List.length_nil, List.all_cons, List.all_nil, Bool.true_and, Bool.and_self, Nat.reduceAdd, Nat.reduceSub, Nat.reduceMul, Nat.zero_add, Nat.add_zero, Int.toNat_natCast, Int.toNat_zero, Int.toNat_one, evK_go, reduceIte, Nat.reduceEqDiff, Nat.reduceLT, and_self, true_and, Option.getD_none, Option.getD_some, Int.zero_add, Int.cast_ofNat_Int, Int.natCast_add, Int.natCast_nonneg]
        refine ⟨⟨by omega, by omega⟩, ⟨by omega, by omega⟩, ?_⟩
        obtain ⟨hI1, hI2, hI6, hI3, hI4, hI5⟩ := hI
        simp (implicitDefEqProofs := false) (dsimp := false) only [List.length_cons] at hI6
        have hc64 := cnt_le s
        simp only at hI1 hI2 hI3 hI4 hI5
        have hsb : s.testBit b = true := hI4 b (by simp)
        have hb : b < next.length := by
          rcases hI3 b hsb with _ | ⟨_, _, h2⟩
          · exact ha
          · exact low_lt hw h2
        have hnb : next.getD b default < 2 ^ 64 := hn _ (getD_mem hb)
        have hand : next.getD b default &&& w < 2 ^ 64 := Nat.lt_of_le_of_lt Nat.and_le_left hnb
        simp (implicitDefEqProofs := false) (dsimp := false) only [each_callQ, hb, hnb, hw', hand, hI1, ↓aw_block, ↓aw_rng, ↓Qseq_n, ↓put_some, ↓h_nil, List.set_cons_zero, List.set_cons_succ, Bool.true_and, Bool.and_self, Bool.true_or, Nat.reduceAdd, Nat.reduceSub, Nat.reduceMul, evK_go, reduceIte, Nat.reduceEqDiff, Nat.reduceLT, and_self, true_and]
        refine OrH.l ⟨DrawH.of follows_mixed (by kernel_rfl), OrH.l (OrH.l ?_)⟩
        have hd : dif (next.getD b default &&& w) s < 2 ^ 64 := dif_lt hand
        have e1 : ((q.length : Int) + 1 - 1).toNat = q.length := by omega
        refine rangeW (slots 42 [(1, .d (.l (next.map U))), (2, .d (U w)), (7, .p 0 0), (8, .p 1 0), (31, .d (.f (.func 40) [.q [U (dif (next.getD b default &&& w) s)]]))])
          (fun st : RS => [.d (U st.s), .o 0 st.pre.length st.q.length]) (fun st : RS => [some ⟨1, (st.pre ++ st.q).map nD⟩]) (fun ys st => ∃ P : List Nat, ys = P.map Int.ofNat ∧ st.s = addAll s P ∧ st.q = q ++ P) ⟨s, pre ++ [b], q⟩
          (by simp [slots]) (each_iter _ hd) ?_ ⟨[], rfl, rfl, by simp⟩ ?_ ?_ ?_
        · simp (implicitDefEqProofs := false) (dsimp := false) only [slots, ↓eval_tmp, List.getD_cons_zero, List.getD_cons_succ, List.set_cons_zero, List.set_cons_succ, Nat.reduceAdd, Nat.reduceSub, Nat.reduceMul, List.replicate, evK_go, reduceIte, Nat.reduceEqDiff, Nat.reduceLT, List.foldl_cons, List.foldl_nil]
        · refine Wkn.of [0, 1] [some 0] ?_
          simp (implicitDefEqProofs := false) (dsimp := false) only [e1, nD, List.map_append, List.length_append, List.append_assoc, ↓vcells_c, ↓vcells_o, List.getD_cons_zero, List.getD_cons_succ, List.set_cons_zero, List.set_cons_succ, List.cons_append, List.nil_append, List.map_cons, List.length_cons, List.length_nil, Bool.and_self, Nat.reduceAdd, Nat.reduceSub, Nat.reduceMul, Nat.zero_add, List.replicate, evK_go, reduceIte, Nat.reduceEqDiff, Nat.reduceLT, and_self, Int.zero_add, List.foldl_cons, List.foldl_nil, slots, wkL_nil, wkL_cons, wkB_nil, wkB_cons, wkR_nil, wkR_some, wkV_j, wkV_d, wkV_o, wkV_p, frz_d, oK_zs, pK_z, pK_s, reduceCtorEq]
        · rintro ys x ⟨s', pre', q'⟩ hpx ⟨P, rfl, hs', hq'⟩
          obtain ⟨P', c, hP, rfl, hc⟩ := prefix_map hpx
          obtain rfl : P = P' := ofNat_inj hP
          simp only at hs' hq'
          subst hs' hq'
          simp (implicitDefEqProofs := false) (dsimp := false) only [slots, with_call, ↓optK_some, ↓rwK_mk_, ↓nthK_H, ↓nthH_zero, ↓aw_seq, ↓aw_block, ↓aw_reg, ↓Qseq_n, ↓Qblk_n, ↓ops_nil, ↓ops_cons, ↓eval_tmp, ↓eval_func, ↓put_some, ↓put_none, ↓dK_d, ↓ldK_p, ↓op_move, ↓op_assign, ↓op_load, ↓op_append, ↓op_call, ↓op_store, isD_d, ↓fnK_f, ↓call_H, ↓callK_H, ↓allT_nil, ↓allT_cons, ↓allD_nil, ↓allD_cons, ↓td_d, ↓setBox_mk, ↓app_mk, ↓st_bx, ↓row_sz, ↓row_xs, kill_d, kill_j, kill_p, kill_o, ↓cells_c, ↓vcells_c, ↓vcells_j, ↓vcells_o, ↓one_i, ↓vone_d, ↓vone_o, ↓st_p, ↓ap_, ↓ap_o, ↓src_l, ↓bs_, ↓op_bs, ↓bsL_f, ↓stored_mk, ↓sl_nil, ↓sl_cons, ↓st_store_t, ↓sT_move, ↓sT_load, ↓sT_bs, ↓sT_call, ↓beq_some, ↓vsz_int, ↓inO_1, ↓fm_nil, ↓fm_cons, ↓Qn_n, ↓Qrd_n, ↓back_mk, ↓ty3, ↓zb3, ↓ty29, ↓sl29, ↓ty49, List.getD_cons_zero, List.getD_cons_succ, List.set_cons_zero, List.set_cons_succ, List.append_nil, List.map_cons, List.map_nil, List.length_cons, List.length_nil, List.length_map, List.all_cons, List.all_nil, Bool.true_and, Bool.and_self, Bool.true_or, Bool.or_false, Nat.reduceAdd, Nat.reduceSub, Nat.reduceMul, Nat.zero_add, List.replicate, evK_go, reduceIte, decide_false, Nat.reduceEqDiff, Nat.reduceLT, and_self, true_and, Int.zero_add, List.foldl_cons, List.foldl_nil]
          have hPl : P.length + 1 ≤ 64 := by
            have := hc.length_le
            have := pts_len (dif (next.getD b default &&& w) s)
            simp (implicitDefEqProofs := false) (dsimp := false) only [List.length_append, List.length_cons, List.length_nil] at *
            omega
          have hPm : ∀ x ∈ P, x < 64 := fun x hx => ((pts_mem _ _).1 (hc.subset (by simp [hx]))).1
          have hc' : c < 64 := ((pts_mem _ _).1 (hc.subset (by simp))).1
          refine OrH.l (OrH.l ⟨⟨addAll_lt s P hI1 hPm, hc'⟩, by omega, ⟨by simp, by simp, by simp (implicitDefEqProofs := false) (dsimp := false) only [List.length_append]; omega, by simp (implicitDefEqProofs := false) (dsimp := false) only [List.length_append]; omega⟩, ⟨addAll s (P ++ [c]), [], q ++ (P ++ [c])⟩, ⟨P ++ [c], by simp, rfl, rfl⟩, ?_⟩)
          refine Wkn.of [0, 1] [some 0] ?_
          rw [List.map_append, drop_appmap]
          simp (implicitDefEqProofs := false) (dsimp := false) only [addAll_snoc, nD, List.map_append, List.length_append, List.append_assoc, Nat.add_assoc, ↓vcells_c, ↓vcells_o, List.getD_cons_zero, List.getD_cons_succ, List.nil_append, List.map_cons, List.map_nil, List.length_cons, List.length_nil, Bool.and_self, Nat.reduceAdd, Nat.reduceSub, Nat.reduceMul, Nat.zero_add, evK_go, reduceIte, Nat.reduceEqDiff, Nat.reduceLT, and_self, Int.zero_add, slots, wkL_nil, wkL_cons, wkB_nil, wkB_cons, wkR_nil, wkR_some, wkV_j, wkV_d, wkV_o, wkV_p, frz_d, oK_zs, pK_z, pK_s, reduceCtorEq]
        · rintro ⟨s', pre', q'⟩ ⟨P, hP, hs', hq'⟩
          obtain rfl : pts (dif (next.getD b default &&& w) s) = P := ofNat_inj hP
          simp only at hs' hq'
          subst hs' hq'
          simp (implicitDefEqProofs := false) (dsimp := false) only [slots, ↓nthK_H, ↓nthH_zero, ↓aw_seq, ↓aw_reg, ↓Qseq_n, ↓Qblk_n, ↓ops_nil, ↓ops_cons, ↓eval_tmp, ↓put_some, ↓put_none, ↓ldK_p, ↓op_load, ↓op_alloc, ↓op_store, ↓addBox_mk, ↓setBox_mk, ↓st_bx, ↓vcells_nl, ↓vcells_o, ↓vone_o, constV_n, ↓st_p, ↓ty29, ↓zb29, List.getD_cons_zero, List.getD_cons_succ, List.set_cons_zero, List.set_cons_succ, List.cons_append, List.nil_append, List.length_cons, List.length_nil, List.all_cons, List.all_nil, Bool.true_and, Bool.and_self, Nat.reduceAdd, Nat.reduceSub, Nat.reduceMul, Nat.zero_add, List.replicate, evK_go, reduceIte, Nat.reduceEqDiff, Nat.reduceLT, and_self, true_and, Int.zero_add, List.foldl_cons, List.foldl_nil]
          have hdb : ∀ j, (dif (next.getD b default &&& w) s).testBit j = true ↔ ((next.getD b default).testBit j = true ∧ w.testBit j = true) ∧ s.testBit j = false := fun j => by
            rw [dif_bit, Nat.testBit_and]
            cases (next.getD b default).testBit j <;> cases w.testBit j <;> cases s.testBit j <;> simp
          have hca := cnt_add s (dif (next.getD b default &&& w) s) (fun j hj => ((hdb j).1 hj).2)
          refine ⟨⟨addAll s (pts (dif (next.getD b default &&& w) s)), pre', q ++ pts (dif (next.getD b default &&& w) s)⟩, ⟨?_, ?_, ?_, ?_, ?_, ?_⟩, ?_, ?_⟩
          · exact addAll_lt _ _ hI1 (fun c hc => ((pts_mem _ _).1 hc).1)
          · exact (addAll_bit _ _ _).2 (.inl hI2)
          · simp (implicitDefEqProofs := false) (dsimp := false) only [List.length_append]; omega
          · intro j hj
            rcases (addAll_bit _ _ _).1 hj with h1 | h1
            · exact hI3 j h1
            · have := (hdb j).1 ((pts_mem _ _).1 h1).2
              exact .step (hI3 b hsb) this.1.1 this.1.2
          · intro j hj
            rcases List.mem_append.1 hj with h1 | h1
            · exact (addAll_bit _ _ _).2 (.inl (hI4 j (by simp [h1])))
            · exact (addAll_bit _ _ _).2 (.inr h1)
          · intro x hx hxq c h1 h2
            have hxq1 : x ∉ q := fun h' => hxq (List.mem_append_left _ h')
            have hxq2 : x ∉ pts (dif (next.getD b default &&& w) s) := fun h' => hxq (List.mem_append_right _ h')
            have hxs : s.testBit x = true := ((addAll_bit _ _ _).1 hx).resolve_right hxq2
            refine (addAll_bit _ _ _).2 ?_
            by_cases hxb : x = b
            · subst hxb
              cases h3 : s.testBit c with
              | true => exact .inl rfl
              | false => exact .inr ((pts_mem _ _).2 ⟨Nat.lt_of_lt_of_le (low_lt hw h2) hlen, (hdb c).2 ⟨⟨h1, h2⟩, h3⟩⟩)
            · exact .inl (hI5 x hxs (by simp [hxb, hxq1]) c h1 h2)
          · have := cnt_le (addAll s (pts (dif (next.getD b default &&& w) s)))
            simp (implicitDefEqProofs := false) (dsimp := false) only [List.length_append]; omega
          · refine Wkn.of [0, 2] [some 0] ?_
            simp (implicitDefEqProofs := false) (dsimp := false) only [List.map_append, ↓vcells_c, ↓vcells_o, List.getD_cons_zero, List.getD_cons_succ, List.length_cons, List.length_nil, Bool.and_self, Nat.reduceAdd, Nat.reduceSub, Nat.reduceMul, Nat.zero_add, evK_go, reduceIte, Nat.reduceEqDiff, Nat.reduceLT, and_self, Int.zero_add, slots, wkL_nil, wkL_cons, wkB_nil, wkB_cons, wkR_nil, wkR_some, wkV_j, wkV_d, wkV_o, wkV_p, frz_d, oK_zs, pK_z, pK_s, reduceCtorEq]
    · cases q with
      | cons b q => simp at h
      | nil =>
        obtain ⟨hI1, hI2, hI6, hI3, hI4, hI5⟩ := hI
        simp only at hI1 hI2 hI3 hI4 hI5
        have : s = reach next w a := reach_eq hn ha' fun j => ⟨hI3 j, fun h => by
          induction h with
          | refl => exact hI2
          | step h h1 h2 ih => exact hI5 _ ih (by simp) _ h1 h2⟩
        rw [← this]
        simp (implicitDefEqProofs := false) (dsimp := false) only [↓nthK_H, ↓nthH_zero, ↓aw_seq, ↓aw_exit, ↓aw_ret, ↓aw_reg, ↓Qseq_n, ↓Qseq_x, ↓Qblk_x, ↓Qret_r, ↓ops_nil, ↓ops_cons, ↓eval_tmp, ↓put_some, ↓ldK_p, ↓op_assign, ↓op_load, ↓td_d, ↓ret_1, ↓vcells_c, ↓ty49, List.getD_cons_zero, List.getD_cons_succ, List.set_cons_zero, List.set_cons_succ, List.append_nil, List.length_nil, Nat.reduceAdd, Nat.reduceSub, Nat.reduceMul, evK_go, reduceIte, Nat.reduceEqDiff, Nat.reduceLT, Int.cast_ofNat_Int]
theorem reach_call (a w : Nat) (next : List Nat) (pure : Bool) (σ : St) (dst : Option Tmp) (K : St → Prop) : CallH Try.prog 35 [I .i64 (a : Int), .l (next.map U), U w] pure σ dst (.mk : Hid K) = OrH ((a < next.length ∧ next.length ≤ 64 ∧ w < 2 ^ next.length ∧ (∀ x ∈ next, x < 2 ^ 64)) ∧ (pure || D.flat (U (reach next w a))) = true ∧ evK (σ.put dst (.d (U (reach next w a)))) (.mk : Hid K)) (.mk : Hid (CallH Try.prog 35 [I .i64 (a : Int), .l (next.map U), U w] pure σ dst (.mk : Hid K))) := CallH.eq (reach_spec a w next) pure σ dst K
end Go.Proofs

namespace Go.Proofs
open Go.Aw
set_option linter.unusedSimpArgs false
set_option maxRecDepth 10000
/-! From integers to points. -/
def natP (p : Int × Int) : Nat × Nat := (p.1.toNat, p.2.toNat)
def natL (l : List (Int × Int)) : List (Nat × Nat) := l.map natP
theorem firstErr_zero {f : Int × Int → Int} {l : List (Int × Int)} (h : firstErr f l = 0) : ∀ p ∈ l, f p = 0 := by
  induction l with
  | nil => intro p hp; cases hp
  | cons q l ih =>
    intro p hp
    by_cases hq : f q = 0
    · have h2 : firstErr f l = 0 := by simpa [firstErr, hq] using h
      rcases List.mem_cons.1 hp with rfl | hp
      · exact hq
      · exact ih h2 p hp
    · simp [firstErr, hq] at h
structure Ok (n : Int) (l : List (Int × Int)) : Prop where
  n0 : n = (n.toNat : Int)
  lo : 1 ≤ n.toNat
  hi : n.toNat ≤ 8
  len : l.length ≤ 24
  rng : ∀ p ∈ l, 0 ≤ p.1 ∧ 0 ≤ p.2
  good : Good n.toNat (natL l)
  ne : ∀ p ∈ natL l, p.1 ≠ p.2
theorem chk_ok {n : Int} {l : List (Int × Int)} (h : chk n l = 0) : Ok n l := by
  unfold chk at h
  split at h
  · cases h
  · rename_i hn
    split at h
    · cases h
    · rename_i hl
      have hn' : 1 ≤ n ∧ n ≤ 8 := by simpa [inB] using hn
      have hp : ∀ p ∈ l, (0 ≤ p.1 ∧ p.1 ≤ n - 1) ∧ (0 ≤ p.2 ∧ p.2 ≤ n - 1) ∧ p.1 ≠ p.2 := fun p hp => by
        have := firstErr_zero h p hp
        unfold lineErr at this
        split at this
        · cases this
        · rename_i h1
          split at this
          · cases this
          · rename_i h2
            simp [inB] at h1
            exact ⟨⟨h1.1, h1.2.1⟩, h1.2.2, h2⟩
      refine ⟨by omega, by omega, by omega, by omega, fun p h' => ⟨(hp p h').1.1, (hp p h').2.1.1⟩, fun p h' => ?_, fun p h' => ?_⟩
      · obtain ⟨q, hq, rfl⟩ := List.mem_map.1 h'
        have := hp q hq
        simp (implicitDefEqProofs := false) (dsimp := false) only [natP]; omega
      · obtain ⟨q, hq, rfl⟩ := List.mem_map.1 h'
        have := hp q hq
        simp (implicitDefEqProofs := false) (dsimp := false) only [natP]; omega
theorem lnD_nat {l : List (Int × Int)} (h : ∀ p ∈ l, 0 ≤ p.1 ∧ 0 ≤ p.2) : l.map lnD = (natL l).map lnN := by
  unfold natL
  rw [List.map_map]
  refine List.map_congr_left fun p hp => ?_
  have := h p hp
  show D.s _ = D.s _
  simp (implicitDefEqProofs := false) (dsimp := false) only [natP, Int.toNat_of_nonneg this.1, Int.toNat_of_nonneg this.2]
theorem natL_len (l : List (Int × Int)) : (natL l).length = l.length := by simp [natL]
theorem Ok.out {n : Int} {l : List (Int × Int)} (h : Ok n l) : n.toNat ≤ 64 ∧ (natL l).length < 2 ^ 62 ∧ ∀ p ∈ natL l, p.1 < n.toNat ∧ p.2 < 64 := by
  refine ⟨by have := h.hi; omega, by rw [natL_len]; have := h.len; omega, fun p hp => ?_⟩
  have := h.good p hp
  have := h.hi
  omega
theorem gcheck_spec (n : Int) (l : List (Int × Int)) (hpre : l.length < 2 ^ 62) : FnD Try.prog 20 [I .i64 n, .l (l.map lnD)] (erD (chk n l)) := by
  refine FnD.go Try.func20 rfl rfl Try.results20 Try.ntmps20 ?_
  simp (implicitDefEqProofs := false) (dsimp := false) only [↓aw_seq, ↓aw_reg, ↓Qseq_n, ↓ops_nil, ↓ops_cons, ↓eval_tmp, ↓eval_func, ↓put_some, ↓op_move, ↓op_assign, ↓op_call, isD_d, ↓fnK_f, ↓call_H, ↓callK_H, ↓allT_nil, ↓allT_cons, ↓td_d, List.getD_cons_zero, List.getD_cons_succ, List.set_cons_zero, List.set_cons_succ, List.cons_append, List.nil_append, List.append_nil, List.map_cons, List.map_nil, List.length_cons, List.length_nil, List.all_cons, List.all_nil, Bool.and_self, Nat.reduceAdd, Nat.reduceSub, Nat.reduceMul, Nat.zero_add, List.replicate, evK_go, reduceIte, Nat.reduceEqDiff, Nat.reduceLT, and_self, Int.zero_add]
  simp (implicitDefEqProofs := false) (dsimp := false) only [check_call, ↓aw_ret, ↓Qseq_n, ↓Qret_r, ↓ops_nil, ↓ops_cons, ↓eval_tmp, ↓put_some, ↓op_assign, ↓td_d, ↓ret_1, List.getD_cons_zero, List.getD_cons_succ, List.set_cons_zero, List.set_cons_succ, Bool.and_true, Bool.and_self, Bool.true_or, Nat.reduceAdd, Nat.reduceSub, Nat.reduceMul, evK_go, reduceIte, Nat.reduceEqDiff, Nat.reduceLT, and_self, and_true]
  exact OrH.l (OrH.l hpre)
theorem gcheck_call (n : Int) (l : List (Int × Int)) (pure : Bool) (σ : St) (dst : Option Tmp) (K : St → Prop) : CallH Try.prog 20 [I .i64 n, .l (l.map lnD)] pure σ dst (.mk : Hid K) = OrH ((l.length < 2 ^ 62) ∧ (pure || D.flat (erD (chk n l))) = true ∧ evK (σ.put dst (.d (erD (chk n l)))) (.mk : Hid K)) (.mk : Hid (CallH Try.prog 20 [I .i64 n, .l (l.map lnD)] pure σ dst (.mk : Hid K))) := CallH.eq (gcheck_spec n l) pure σ dst K
def isI (P : Program) (t : TypeId) : Bool := match P.underlying t with
  | some (.interface _) => true
  | _ => false
theorem isI_inv {P : Program} {t : TypeId} (h : isI P t = true) : ∃ ms, P.underlying t = some (.interface ms) := by
  unfold isI at h
  split at h
  · rename_i ms e; exact ⟨ms, e⟩
  · cases h
theorem u25 : ∃ ms, Try.prog.underlying 24 = some (.interface ms) := isI_inv (by kernel_rfl)
theorem ub4 : Try.prog.underlying 4 = some .bool := by kernel_rfl
theorem er_neq (e : Int) (x : Operand) (C : V → Prop) : binE Try.prog .neq 24 x (.const .nilIface) (.d (erD e)) (.d (.c .nilIface)) C = C (.d (Bo (!decide (e = 0)))) := by
  by_cases h : e = 0
  · subst h; obtain ⟨ms, h⟩ := u25; exact binX (nil_neq h x) C
  · simp (implicitDefEqProofs := false) (dsimp := false) only [erD, h, if_false]; obtain ⟨ms, h⟩ := u25; exact binX (some_neq h x _ _ _) C
theorem er_eql (e : Int) (x : Operand) (C : V → Prop) : binE Try.prog .eql 24 x (.const .nilIface) (.d (erD e)) (.d (.c .nilIface)) C = C (.d (Bo (decide (e = 0)))) := by
  by_cases h : e = 0
  · subst h; obtain ⟨ms, h⟩ := u25; exact binX (nil_eql h x) C
  · simp (implicitDefEqProofs := false) (dsimp := false) only [erD, h, if_false]; obtain ⟨ms, h⟩ := u25; exact binX (some_eql h x _ _ _) C
theorem bo_neq (x y : Operand) (a b : Bool) (C : V → Prop) : binE Try.prog .neq 4 x y (.d (Bo a)) (.d (Bo b)) C = C (.d (Bo (!(a == b)))) := binE_neb ub4 x y a b C
theorem er_flat (e : Int) : D.flat (erD e) = true := by unfold erD; split <;> rfl
theorem rflat_U (n : Nat) (l : List Nat) : Res.flat (.row n (l.map U)) = true := by
  simp [Res.flat, D.flat]
end Go.Proofs

namespace Go.Proofs
open Go.Aw
set_option linter.unusedSimpArgs false
set_option maxRecDepth 10000
/-- Does a number stand twice? -/
def twice : List Int → Bool
  | l => !decide l.Nodup
end Go.Proofs

namespace Go.Proofs
open Go.Aw
set_option linter.unusedSimpArgs false
def two (fs : List Field) : Bool := match fs with
  | [f0, f1] => f0.name != "_" && f1.name != "_" && f0.type == 3 && f1.type == 3 && f0.offset == 0 && f1.offset == 1
  | _ => false
end Go.Proofs

namespace Go.Proofs
open Go.Aw
set_option linter.unusedSimpArgs false
set_option maxRecDepth 10000
/-- A list of numbers as data. -/
def liD (x : List Int) : D := .l (x.map (I .i64))
end Go.Proofs

namespace Go.Proofs
open Go.Aw
set_option linter.unusedSimpArgs false
set_option maxRecDepth 10000
end Go.Proofs

namespace Go.Proofs
open Go.Aw
set_option linter.unusedSimpArgs false
set_option maxRecDepth 10000
/-- Where ways go from each point. -/
def closeAll (n : Int) (l : List (Int × Int)) : List (List Int) := if chk n l = 0 then (war n.toNat (natL l)).map ptsI else []
theorem Ok.cr {n : Int} {l : List (Int × Int)} (h : Ok n l) : n.toNat ≤ 64 ∧ (natL l).length < 2 ^ 62 ∧ Good n.toNat (natL l) := ⟨h.out.1, h.out.2.1, h.good⟩
end Go.Proofs

namespace Go.Proofs
open Go.Aw
set_option linter.unusedSimpArgs false
set_option maxRecDepth 10000
def topoE (n : Int) (l : List (Int × Int)) : Int := if chk n l = 0 then (if (topoO n.toNat (natL l)).isSome then 0 else 5) else chk n l
def topoL (n : Int) (l : List (Int × Int)) : List Nat := if chk n l = 0 then (topoO n.toNat (natL l)).getD [] else []
theorem TI.zero {n left : Nat} {l : List (Nat × Nat)} {acc : List Nat} (hl : acc.length = n) (h : TI n l left acc) : left = 0 := by
  apply Nat.eq_of_testBit_eq
  intro i
  rw [Nat.zero_testBit, ← Bool.not_eq_true]
  intro hi
  have hni : i ∉ acc := fun h' => by have := (h.out i h').2; rw [hi] at this; cases this
  have hsub : ∀ x ∈ i :: acc, x ∈ List.range n := fun x hx => by
    rcases List.mem_cons.1 hx with rfl | hx
    · simpa using h.lt x hi
    · simpa using (h.out x hx).1
  have := pig (List.nodup_cons.2 ⟨hni, h.nodup⟩) hsub
  simp at this; omega
structure TSt where
  m : Nat
  left : Nat
  acc : List Nat
end Go.Proofs

namespace Go.Proofs
open Go.Aw
set_option linter.unusedSimpArgs false
set_option maxRecDepth 10000
def fewR (n : Int) (l : List (Int × Int)) : List (Nat × Nat) := if topoE n l = 0 then few n.toNat (natL l) else []
def fewK (n : Nat) (l : List (Nat × Nat)) (k : Nat) : List (Nat × Nat) := (List.range k).flatMap fun i => (pts (fewB n l i)).map fun j => (i, j)
end Go.Proofs

namespace Go.Proofs
open Go.Aw
set_option linter.unusedSimpArgs false
set_option maxRecDepth 10000
def oD (m : Nat) (L : List (Nat × Nat)) (f : Nat) (P : List Nat) : List Nat := (List.range m).map fun i => if i ∈ P then ovS m L f i else 0
def ovP (m : Nat) (L : List (Nat × Nat)) (f c k : Nat) : Nat := addAll 0 ((List.range k).filter (ovC m L f c))
/-- What is wrong with lines and a point. -/
def domE (n : Int) (l : List (Int × Int)) (f : Int) : Int := if chk n l = 0 then (if inB f 0 (n - 1) then 0 else 1) else chk n l
def domOf (n : Int) (l : List (Int × Int)) (f : Int) : List (List Int) := if domE n l f = 0 then (ovL n.toNat (natL l) f.toNat).map ptsI else []
def domLast (n : Int) (l : List (Int × Int)) (f : Int) : List Int := if domE n l f = 0 then lastL n.toNat (ovL n.toNat (natL l) f.toNat) else []
end Go.Proofs

namespace Go.Proofs
open Go.Aw
set_option linter.unusedSimpArgs false
set_option maxRecDepth 10000
def strongR (n : Int) (l : List (Int × Int)) : List Nat := if chk n l = 0 then strongP n.toNat (natL l) else []
end Go.Proofs

namespace Go.Proofs
open Go.Aw
set_option linter.unusedSimpArgs false
set_option maxRecDepth 10000
def foldO (n : Int) (l : List (Int × Int)) : List Nat := if chk n l = 0 then fOut n.toNat (natL l) else []
def foldL (n : Int) (l : List (Int × Int)) : List (Nat × Nat) := if chk n l = 0 then fLines n.toNat (natL l) else []
end Go.Proofs

namespace Go.Proofs
open Go.Aw
set_option linter.unusedSimpArgs false
set_option maxRecDepth 10000
def lastB (m : Nat) (W : List Nat) (k : Nat) : List Int := (List.range m).map fun i => if i < k then lastI W i else 0
end Go.Proofs

namespace Go.Proofs
open Go.Aw
set_option linter.unusedSimpArgs false
set_option maxRecDepth 10000
theorem sym_take {n : Nat} {L : List (Nat × Nat)} {k : Nat} (h : k < L.length) : outS n (L ++ (L.take (k + 1)).map flip) = outF (outS n (L ++ (L.take k).map flip)) (flip (L.getD k default)) := by
  rw [take_succ_getD h, List.map_append, ← List.append_assoc]
  exact outS_snoc _ _ _
theorem beside_spec (n : Nat) (L : List (Nat × Nat)) (hpre : n ≤ 64 ∧ L.length < 2 ^ 62 ∧ Good n L) : FnR Try.prog 21 [I .i64 (n : Int), .l (L.map lnN)] 1 ((outS n (symL L)).map U) := by
  obtain ⟨hn, hl, hg⟩ := hpre
  have hout : n ≤ 64 ∧ L.length < 2 ^ 62 ∧ ∀ p ∈ L, p.1 < n ∧ p.2 < 64 := ⟨hn, hl, fun p hp => by have := hg p hp; omega⟩
  refine FnR.go Try.func21 rfl rfl Try.results21 Try.ntmps21 ?_
  simp (implicitDefEqProofs := false) (dsimp := false) only [↓aw_seq, ↓aw_reg, ↓Qseq_n, ↓ops_nil, ↓ops_cons, ↓eval_tmp, ↓eval_nil, ↓eval_func, ↓put_some, ↓op_move, ↓op_assign, ↓op_call, isD_d, ↓fnK_f, ↓call_H, ↓callK_H, ↓allT_nil, ↓allT_cons, ↓td_d, List.getD_cons_zero, List.getD_cons_succ, List.set_cons_zero, List.set_cons_succ, List.cons_append, List.nil_append, List.append_nil, List.map_cons, List.map_nil, List.length_cons, List.length_nil, List.all_cons, List.all_nil, Bool.and_self, Nat.reduceAdd, Nat.reduceSub, Nat.reduceMul, Nat.zero_add, List.replicate, evK_go, reduceIte, Nat.reduceEqDiff, Nat.reduceLT, and_self, Int.zero_add]
  simp (implicitDefEqProofs := false) (dsimp := false) only [out_call, rflat_U, ↓aw_seq, ↓aw_block, ↓aw_loop, ↓aw_reg, ↓Qseq_n, ↓ops_nil, ↓ops_cons, ↓eval_tmp, ↓eval_int, ↓put_some, ↓lenK_l, ↓op_move, ↓op_assign, ↓op_len, ↓addRow_mk, ↓st_rw, ↓sl22, List.getD_cons_zero, List.getD_cons_succ, List.set_cons_zero, List.set_cons_succ, List.nil_append, List.length_nil, List.length_map, Bool.true_and, Bool.or_true, Nat.reduceAdd, Nat.reduceSub, Nat.reduceMul, evK_go, reduceIte, Nat.reduceEqDiff, Nat.reduceLT, true_and]
  refine OrH.l (OrH.l ⟨hout, ?_⟩)
  have h0 := outS_len n L
  simp (implicitDefEqProofs := false) (dsimp := false) only [h0]
  refine loopW (fun k : Nat => { tm := slots 31 [(5, .o 0 0 n), (11, .d (.l (L.map lnN))), (12, .d (I .i64 L.length)), (13, .d (I .i64 k))], bx := [], rw := [some ⟨1, (outS n (L ++ (L.take k).map flip)).map U⟩] })
    (fun k => k ≤ L.length) (fun k => L.length - k) 0 (by simp) ?_ ?_
  · refine Wkn.of [] [some 0] ?_
    simp (implicitDefEqProofs := false) (dsimp := false) only [List.append_nil, List.getD_cons_zero, List.set_cons_zero, List.set_cons_succ, List.append_nil, List.map_nil, Bool.and_self, Nat.reduceAdd, Nat.reduceSub, Nat.reduceMul, List.replicate, evK_go, reduceIte, Nat.reduceEqDiff, Nat.reduceLT, and_self, List.take_zero, List.foldl_cons, List.foldl_nil, Int.cast_ofNat_Int, slots, wkL_nil, wkL_cons, wkB_nil, wkR_nil, wkR_some, wkV_j, wkV_d, wkV_o, frz_d, oK_zs, reduceCtorEq]
  · intro k hk
    simp (implicitDefEqProofs := false) (dsimp := false) only [slots, ↓aw_cond, ↓aw_seq, ↓aw_reg, ↓Qseq_n, ↓ops_nil, ↓ops_cons, ↓eval_tmp, ↓put_some, ↓bK_b, ↓binE_i, ↓bi_lss, ↓op_bin, List.getD_cons_zero, List.getD_cons_succ, List.set_cons_zero, List.set_cons_succ, Nat.reduceAdd, Nat.reduceSub, Nat.reduceMul, List.replicate, evK_go, reduceIte, Nat.reduceEqDiff, Nat.reduceLT, List.foldl_cons, List.foldl_nil, Int.ofNat_lt]
    refine cdK_dec (fun h => ?_) (fun h => ?_)
    · have hp := hg _ (getD_mem h)
      have hS := outS_len n (L ++ (L.take k).map flip)
      have hlt : ∀ x ∈ outS n (L ++ (L.take k).map flip), x < 2 ^ 64 := outS_lt' hn fun p hp => by
        rcases List.mem_append.1 hp with hp | hp
        · exact hg p hp
        · obtain ⟨q, hq, rfl⟩ := List.mem_map.1 hp
          have := hg q (List.mem_of_mem_take hq)
          exact ⟨this.2, this.1⟩
      have e := sym_take (n := n) h
      generalize outS n (L ++ (L.take k).map flip) = S at hS hlt e ⊢
      generalize hab : L.getD k default = p at hp e
      obtain ⟨a, b⟩ := p
      simp only at hp
      have hbS : b < S.length := by omega
      have hltb := hlt _ (getD_mem hbS)
      have ha64 : a < 64 := by omega
      simp (implicitDefEqProofs := false) (dsimp := false) only [h, lnN, hab, hbS, with_callQ, hltb, ha64, ↓optK_some, ↓rwK_mk_, ↓atK_H, ↓atH_map, ↓nthK_H, ↓nthH_zero, ↓nthH_succ, ↓aw_seq, ↓aw_block, ↓aw_skip, ↓aw_reg, ↓aw_draw, ↓Qseq_n, ↓Qblk_n, ↓ops_nil, ↓ops_cons, ↓eval_tmp, ↓eval_int, ↓eval_func, ↓put_some, ↓put_none, ↓iK_i, ↓dK_d, ↓ev_move, ↓ev_load, ↓ev_fa, ↓ev_ia, ↓binE_i, ↓bi_add, ↓in_i64, ↓ldK_q, ↓ldK_p, ↓ldK_e, ↓faK_p, ↓iaK_l, ↓iaK_o, ↓op_move, ↓op_load, ↓op_bin, ↓op_ia, ↓op_alloc, ↓op_store, isD_d, ↓fnK_f, ↓callKQ_H, ↓allT_nil, ↓allT_cons, ↓td_d, ↓draw_H, ↓h_cons, ↓ldH_t, ↓ldH_n, ↓q_call, ↓q_move, ↓q_load, ↓q_fa, ↓q_ia, ↓il_move, ↓il_load, ↓il_fa, ↓il_ia, ↓il_call, ↓il_store, ↓addBox_mk, ↓setBox_mk, ↓setRow_mk, ↓st_bx, ↓row_sz, ↓row_xs, ↓cells_c, ↓cells_s, ↓vcells_s, ↓one_i, ↓vone_d, constV_a, ↓st_p, ↓st_e, ↓ty3, ↓sl22, ↓ty28, ↓zb28, ↓fd28_0, ↓fd28_1, ↓sl45, ↓ty49, List.getD_cons_zero, List.getD_cons_succ, List.set_cons_zero, List.set_cons_succ, List.nil_append, List.append_nil, List.map_cons, List.map_nil, List.length_cons, List.length_nil, List.all_cons, List.all_nil, Bool.true_and, Bool.and_self, Bool.true_or, Nat.reduceAdd, Nat.reduceSub, Nat.reduceMul, Nat.zero_add, Nat.add_zero, Int.toNat_natCast, evK_go, reduceIte, decide_true, Nat.reduceEqDiff, Nat.reduceLT, and_self, true_and, Int.zero_add, List.take_succ_cons, List.take_nil, Int.ofNat_lt, Int.natCast_nonneg]
      refine ⟨by decide, OrH.l ⟨DrawH.of follows_mixed (by kernel_rfl), by omega, OrH.l (OrH.l ⟨by omega, by omega, k + 1, by omega, by omega, ?_⟩)⟩⟩
      refine Wkn.of [] [some 0] ?_
      simp (implicitDefEqProofs := false) (dsimp := false) only [e, outF, flip, List.map_set, List.getD_cons_zero, List.set_cons_zero, List.set_cons_succ, Bool.and_self, Nat.reduceAdd, Nat.reduceSub, Nat.reduceMul, List.replicate, evK_go, reduceIte, Nat.reduceEqDiff, Nat.reduceLT, and_self, List.foldl_cons, List.foldl_nil, Int.cast_ofNat_Int, Int.natCast_add, slots, wkL_nil, wkL_cons, wkB_nil, wkR_nil, wkR_some, wkV_j, wkV_d, wkV_o, frz_d, oK_zs, reduceCtorEq]
    · obtain rfl : k = L.length := by omega
      rw [List.take_length]
      simp (implicitDefEqProofs := false) (dsimp := false) only [↓optK_some, ↓rwK_mk_, ↓aw_seq, ↓aw_exit, ↓aw_ret, ↓aw_reg, ↓Qseq_n, ↓Qseq_x, ↓Qblk_x, ↓ops_nil, ↓ops_cons, ↓eval_tmp, ↓put_some, ↓op_move, ↓op_assign, ↓row_sz, ↓row_xs, ↓Qrow_r, ↓rowK_o, List.getD_cons_zero, List.getD_cons_succ, List.set_cons_zero, List.set_cons_succ, Bool.true_and, Nat.reduceAdd, Nat.reduceSub, Nat.reduceMul, evK_go, reduceIte, decide_false, Nat.reduceEqDiff, Nat.reduceLT, true_and, Nat.lt_irrefl]
      have h4 := outS_len n (L ++ L.map flip)
      exact List.take_of_length_le (by simp [h4])
theorem beside_call (n : Nat) (L : List (Nat × Nat)) (pure : Bool) (σ : St) (dst : Option Tmp) (K : St → Prop) : CallH Try.prog 21 [I .i64 (n : Int), .l (L.map lnN)] pure σ dst (.mk : Hid K) = OrH ((n ≤ 64 ∧ L.length < 2 ^ 62 ∧ Good n L) ∧ (pure || Res.flat (.row 1 ((outS n (symL L)).map U))) = true ∧ evK ((σ.addRow ⟨1, (outS n (symL L)).map U⟩).put dst (.o σ.rw.length 0 (List.length ((outS n (symL L)).map U)))) (.mk : Hid K)) (.mk : Hid (CallH Try.prog 21 [I .i64 (n : Int), .l (L.map lnN)] pure σ dst (.mk : Hid K))) := CallH.eqR (fun h => beside_spec n L h) pure σ dst K
theorem beside_callD (n : Nat) (L : List (Nat × Nat)) (pure : Bool) (σ : St) (dst : Option Tmp) (K : St → Prop) : CallH Try.prog 21 [I .i64 (n : Int), .l (L.map lnN)] pure σ dst (.mk : Hid K) = OrH ((n ≤ 64 ∧ L.length < 2 ^ 62 ∧ Good n L) ∧ (pure || D.flat (.l ((outS n (symL L)).map U))) = true ∧ evK (σ.put dst (.d (.l ((outS n (symL L)).map U)))) (.mk : Hid K)) (.mk : Hid (CallH Try.prog 21 [I .i64 (n : Int), .l (L.map lnN)] pure σ dst (.mk : Hid K))) := CallH.eq (fun h => ((fun h => beside_spec n L h) h).data) pure σ dst K
end Go.Proofs

namespace Go.Proofs
open Go.Aw
set_option linter.unusedSimpArgs false
set_option maxRecDepth 10000
theorem ty54 (k : Bool → Nat → Prop) : tyK Try.prog 54 k = k false 1 := tyK_eq (by kernel_rfl) k
theorem zb54 (k : Value → Nat → Prop) : zbK Try.prog 54 k = k .nilFunc 8 := zbK_eq (by kernel_rfl) k
/-- The boxes that it works on. -/
def tB (next : List Nat) (right sn : Nat) (rest : List V) : List V := .d (.l (next.map U)) :: .o 0 0 right :: .d (U sn) :: .fp (.func 41) [0, 2, 1, 3] :: rest
def tR (has : List Int) (restR : List (Option Row)) : List (Option Row) := some ⟨1, has.map (I .i64)⟩ :: restR
theorem end0 {α : Type} (rest : List α) (x : α) (ys : List α) (d : α) : (rest ++ x :: ys).getD rest.length d = x := by simp [List.getD_eq_getElem?_getD]
theorem end1 {α : Type} (rest : List α) (x y : α) (ys : List α) (d : α) : (rest ++ x :: y :: ys).getD (rest.length + 1) d = y := by simp [List.getD_eq_getElem?_getD, List.getElem?_append_right]
theorem endS1 {α : Type} (rest : List α) (x y z : α) (ys : List α) : (rest ++ x :: y :: ys).set (rest.length + 1) z = rest ++ x :: z :: ys := by simp [List.set_append]
theorem cells_fp (fn : Fn) (ps : List Nat) : (V.fp fn ps).cells = [.fp fn ps] := rfl
theorem ret_of {σ : St} {a b : Nat} {v : Value} {R : D → Prop} (h1 : σ.tm.getD a .j = .p b 0) (h2 : σ.bx.getD b .j = .d (.c v)) (h : R (.c v)) : retD Try.prog σ [.cell a 4] R := by
  show rvK Try.prog σ (.cell a 4) R
  unfold rvK
  simp (implicitDefEqProofs := false) (dsimp := false) only [h1, ty4, h2]
  exact nthK_mk (y := .d (.c v)) rfl (show tdK σ (.d (.c v)) R from h)
theorem try_spec {left right : Nat} {l : List (Nat × Nat)} (hr : right ≤ 8) (hl8 : left ≤ 8) (hg : ∀ i j, j ∈ pts ((outS (max left 1) l).getD i default) ↔ (i, j) ∈ l) (hlt : ∀ x ∈ outS (max left 1) l, x < 2 ^ 64) (hsd : Sides left right l) :
    ∀ (m i : Nat) (s : KS) (rest : List V) (restR : List (Option Row)) (gh : List V), i < left → HasOK right left l s.has → s.has.length = right → s.seen < 2 ^ 64 → unseen right s.seen < m → (∀ x ∈ rest, ∀ y ∈ x.cells, y.below (rest.length + 4)) →
    FnM Try.prog 41 [.d (I .i64 (i : Int)), .p 0 0, .p 2 0, .p 1 0, .p 3 0] (tB (outS (max left 1) l) right s.seen rest) (tR s.has restR) gh (fun d bx' rw' gh' => gh' = gh ∧ d = Bo (tryF (outS (max left 1) l) m i s).1 ∧
      bx' = tB (outS (max left 1) l) right (tryF (outS (max left 1) l) m i s).2.seen rest ∧ rw' = tR (tryF (outS (max left 1) l) m i s).2.has restR) := by
  intro m
  induction m with
  | zero => intro i s rest restR gh _ _ _ _ h; omega
  | succ m ih =>
    intro i s rest restR gh hi hok hlen hseen hun hrest
    have hol := outS_len (max left 1) l
    obtain ⟨next, hnext⟩ : ∃ next, next = outS (max left 1) l := ⟨_, rfl⟩
    have hts := fun (m i : Nat) (s : KS) h1 h2 => tryF_spec hsd (by omega) hg m i s h1 h2
    rw [← hnext] at hg hlt hol ih hts ⊢
    have hin : i < next.length := by omega
    have hnl := hlt _ (getD_mem hin)
    obtain ⟨res, hres⟩ : ∃ res, res = tryF next (m + 1) i s := ⟨_, rfl⟩
    rw [← hres]
    refine FnM.shrink (Kf' := fun d bx' rw' gh' => gh' = gh ∧ d = Bo res.1 ∧ (∃ a b, bx' = tB next right res.2.seen (rest ++ [a, b])) ∧ rw' = tR res.2.has restR) (FnM.go Try.func41 rfl rfl Try.results41 Try.ntmps41 ?_) ?_
    rotate_left
    · rintro d bx' rw' gh' ⟨rfl, rfl, ⟨a, b, rfl⟩, rfl⟩
      refine ⟨rfl, tB next right res.2.seen rest, [a, b], by simp [tB], by simp [tB], ?_, rfl, rfl, rfl, rfl⟩
      intro x hx y hy
      have hL : (tB next right res.2.seen rest).length = rest.length + 4 := by simp [tB]
      rw [hL]
      simp (implicitDefEqProofs := false) (dsimp := false) only [tB, List.mem_cons] at hx
      rcases hx with rfl | rfl | rfl | rfl | hx
      · simp [V.cells] at hy; subst hy; trivial
      · simp [V.cells] at hy; subst hy; trivial
      · have : y = .d (U res.2.seen) := by simpa [V.cells, U] using hy
        subst this; trivial
      · simp [V.cells] at hy; subst hy
        intro b hb
        simp at hb; omega
      · exact hrest x hx y hy
    · simp (implicitDefEqProofs := false) (dsimp := false) only [tB, tR, hin, each_call, List.append_assoc, List.length_append, end0, ↓atK_H, ↓atH_map, ↓nthK_H, ↓nthH_zero, ↓aw_seq, ↓aw_block, ↓aw_rng, ↓aw_reg, ↓Qseq_n, ↓ops_nil, ↓ops_cons, ↓eval_tmp, ↓eval_func, ↓put_some, ↓iK_i, ↓ldK_q, ↓ldK_p, ↓iaK_l, ↓op_load, ↓op_ia, ↓op_call, ↓op_alloc, ↓op_box, isD_d, ↓fnK_f, ↓call_H, ↓callK_H, ↓allT_nil, ↓allT_cons, ↓td_d, ↓addBox_mk, ↓st_bx, ↓cells_c, ↓vcells_c, ↓vcells_l, ↓one_i, ↓vone_d, constV_b, ↓hd_cons, ↓ty3, ↓zb4, ↓ty45, ↓sl45, ↓ty49, List.getD_cons_zero, List.getD_cons_succ, List.set_cons_zero, List.set_cons_succ, List.cons_append, List.nil_append, List.append_nil, List.length_cons, List.length_nil, List.all_cons, List.all_nil, Bool.true_and, Bool.and_self, Bool.true_or, Nat.reduceAdd, Nat.reduceSub, Nat.reduceMul, Nat.zero_add, Int.toNat_natCast, List.replicate, evK_go, reduceIte, Nat.reduceEqDiff, Nat.reduceLT, and_self, true_and, Int.zero_add, Int.natCast_nonneg]
      (repeat refine OrH.l ?_)
      refine rangeG (slots 37 [(1, .p 0 0), (2, .p 2 0), (3, .p 1 0), (4, .p 3 0), (5, .p (rest.length + 1 + 1 + 1 + 1) 0), (6, .p (rest.length + 1 + 1 + 1 + 1 + 1) 0), (12, .d (.f (.func 40) [.q [U (next.getD i default)]]))]) gh
        (fun st : KS => .d (.l (next.map U)) :: .o 0 0 right :: .d (U st.seen) :: .fp (.func 41) [0, 2, 1, 3] :: (rest ++ [.d (I .i64 (i : Int)), .d (Bo false)])) (fun st => some ⟨1, st.has.map (I .i64)⟩ :: restR)
        (fun ys st => ∃ P : List Nat, ys = P.map Int.ofNat ∧ (∀ rs, P ++ rs = pts (next.getD i default) → res = tryL (tryF next m) i rs st) ∧ HasOK right left l st.has ∧ st.has.length = right ∧ st.seen < 2 ^ 64 ∧ unseen right st.seen < m + 1) s
        (each_iter _ hnl) ?_ ⟨[], rfl, fun rs h => by rw [hres]; show tryL _ i (pts (next.getD i default)) s = _; rw [← h]; rfl, hok, hlen, hseen, hun⟩ ?_ ?_ ?_
      · simp (implicitDefEqProofs := false) (dsimp := false) only [slots, ↓eval_tmp, List.getD_cons_zero, List.getD_cons_succ, List.set_cons_zero, List.set_cons_succ, Nat.reduceAdd, Nat.reduceSub, Nat.reduceMul, List.replicate, evK_go, reduceIte, Nat.reduceEqDiff, Nat.reduceLT, List.foldl_cons, List.foldl_nil]
      · refine TmLe.wkn ?_
        simp (implicitDefEqProofs := false) (dsimp := false) only [slots, tmLe_nil, tmLe_j, tmLe_s, List.set_cons_zero, List.set_cons_succ, Nat.reduceAdd, Nat.reduceSub, Nat.reduceMul, List.replicate, evK_go, reduceIte, Nat.reduceEqDiff, Nat.reduceLT, List.foldl_cons, List.foldl_nil]
      · rintro ys x st hpx ⟨P, rfl, hrs, hok', hlen', hseen', hun'⟩
        obtain ⟨P', c, hP, rfl, hcc⟩ := prefix_map hpx
        obtain rfl : P = P' := ofNat_inj hP
        have hcm := hcc.subset (by simp : c ∈ P ++ [c])
        have hcr : c < right := (hsd _ ((hg i c).1 hcm)).2
        have hch : c < st.has.length := by omega
        obtain ⟨rs, hrs0⟩ := hcc
        have hthis := hrs (c :: rs) (by rw [← hrs0]; simp)
        have hnext' : ∀ st' : KS, res = tryL (tryF next m) i rs st' → ∀ rs', P ++ [c] ++ rs' = pts (next.getD i default) → res = tryL (tryF next m) i rs' st' := fun st' h rs' h' => by
          have : rs' = rs := List.append_cancel_left (h'.trans hrs0.symm)
          rw [this]; exact h
        have hc64 : c < 64 := by omega
        have hc64' : c ≤ 64 := by omega
        obtain ⟨has, seen⟩ := st
        simp only at hok' hlen' hseen' hun' hch
        simp (implicitDefEqProofs := false) (dsimp := false) only [slots, hasS_call, hseen', hc64', List.getD_cons_succ, ↓nthK_H, ↓nthH_zero, ↓aw_cond, ↓aw_seq, ↓aw_block, ↓aw_reg, ↓Qseq_n, ↓ops_nil, ↓ops_cons, ↓eval_tmp, ↓eval_func, ↓put_some, ↓bK_b, ↓ldK_p, ↓op_move, ↓op_assign, ↓op_load, ↓op_call, isD_d, ↓fnK_f, ↓call_H, ↓callK_H, ↓allT_nil, ↓allT_cons, ↓td_d, ↓vcells_c, ↓Qn_n, ↓ty49, List.getD_cons_zero, List.getD_cons_succ, List.set_cons_zero, List.set_cons_succ, List.cons_append, List.nil_append, List.append_nil, List.all_cons, List.all_nil, Bool.true_and, Bool.and_self, Bool.true_or, Nat.reduceAdd, Nat.reduceSub, Nat.reduceMul, List.replicate, evK_go, reduceIte, Nat.reduceEqDiff, Nat.reduceLT, and_self, true_and, List.foldl_cons, List.foldl_nil]
        refine OrH.l (OrH.l (cdK_split (fun hb => ?_) (fun hb => ?_)))
        · simp (implicitDefEqProofs := false) (dsimp := false) only [QB_n, QB_x, backN_mk, ↓aw_seq, ↓aw_exit, ↓aw_ret, ↓aw_reg, ↓Qseq_n, ↓Qseq_x, ↓Qblk_x, ↓ops_nil, ↓ops_cons, ↓eval_tmp, ↓eval_bool, ↓put_none, ↓op_store, Nat.reduceAdd, Nat.reduceSub, Nat.reduceMul, evK_go, reduceIte, Nat.reduceEqDiff, Nat.reduceLT]
          refine ⟨⟨has, seen⟩, ⟨P ++ [c], by simp, hnext' _ (by rw [hthis]; show (if _ then _ else _) = _; rw [if_pos hb]), hok', hlen', hseen', hun'⟩, ?_⟩
          exact Wkn.refl _
        · have hor : seen ||| 2 ^ c < 2 ^ 64 := Nat.or_lt_two_pow hseen' (Nat.pow_lt_pow_right (by omega) hc64)
          rcases Int.lt_or_le (has.getD c default) 0 with hneg | hpos
          · have hd : decide (has.getD c default < 0) = true := decide_eq_true hneg
            simp (implicitDefEqProofs := false) (dsimp := false) only [with_call, hseen', hc64, hlen', hcr, hd, end0, end1, endS1, QB_r, QM_r, backN_mk, ↓cdK_true, ↓gdK_f, ↓gval_mk, ↓gvL_zero, ↓gvL_succ, ↓optK_some, ↓rwK_mk_, ↓atK_H, ↓atH_map, ↓nthK_H, ↓nthH_zero, ↓aw_cond, ↓aw_seq, ↓aw_ret, ↓aw_skip, ↓aw_reg, ↓aw_draw, ↓Qseq_n, ↓Qseq_r, ↓Qblk_r, ↓ops_nil, ↓ops_cons, ↓eval_tmp, ↓eval_int, ↓eval_bool, ↓eval_func, ↓put_some, ↓put_none, ↓bK_b, ↓iK_i, ↓dK_d, ↓ev_move, ↓ev_pick, ↓ev_load, ↓ev_bin, ↓ev_ia, ↓binE_i, ↓bi_lss, ↓ldK_p, ↓ldK_e, ↓iaK_o, ↓op_move, ↓op_load, ↓op_ia, ↓op_call, ↓op_store, isD_d, ↓fnK_f, ↓call_H, ↓callK_H, ↓allT_nil, ↓allT_cons, ↓td_d, ↓draw_H, ↓h_nil, ↓h_cons, ↓ldH_n, ↓ldH_g, ↓q_move, ↓q_pick, ↓q_load, ↓q_bin, ↓q_ia, ↓il_move, ↓il_pick, ↓il_load, ↓il_bin, ↓il_ia, ↓il_call, ↓setBox_mk, ↓setRow_mk, ↓st_tm, ↓st_bx, ↓st_rw, ↓st_gh, ↓row_sz, ↓row_xs, ↓cells_c, ↓vcells_c, ↓vcells_o, ↓one_i, ↓one_b, ↓vone_d, ↓st_p, ↓st_e, ↓ty3, ↓ty4, ↓ty29, ↓sl29, ↓ty49, List.getD_cons_zero, List.getD_cons_succ, List.set_cons_zero, List.set_cons_succ, List.append_nil, List.length_cons, List.length_nil, List.all_cons, List.all_nil, Bool.true_and, Bool.and_self, Bool.true_or, Nat.reduceAdd, Nat.reduceSub, Nat.reduceMul, Nat.zero_add, Int.toNat_natCast, evK_go, reduceIte, Nat.reduceEqDiff, Nat.reduceLT, and_self, true_and, Int.zero_add, Int.ofNat_lt, Int.natCast_nonneg]
            (repeat refine OrH.l ?_)
            refine ⟨DrawH.of follows_mixed (by kernel_rfl), ?_⟩
            have hval : res = (true, ⟨has.set c (i : Int), seen ||| 2 ^ c⟩) := by
              rw [hthis]
              show (if _ then _ else (if _ then _ else _)) = _
              rw [if_neg (by rw [hb]; decide), if_pos hneg]
            refine ret_of rfl (end1 _ _ _ _ _) ⟨rfl, ?_, ⟨.d (I .i64 (i : Int)), .d (Bo true), ?_⟩, ?_⟩
            · rw [hval]; try rfl
            · rw [hval]; try rfl
            · rw [hval]
              simp (implicitDefEqProofs := false) (dsimp := false) only [tR, List.map_set]
          · obtain ⟨x, hx2, hx1, hx3⟩ := hok'.nat hcr (by omega)
            have hd : decide (has.getD c default < 0) = false := by rw [decide_eq_false_iff_not]; omega
            simp (implicitDefEqProofs := false) (dsimp := false) only [with_call, hseen', hc64, hlen', hcr, hd, ty54, ↓cdK_false, ↓gdK_f, ↓gval_mk, ↓gvL_zero, ↓gvL_succ, ↓optK_some, ↓rwK_mk_, ↓atK_H, ↓atH_map, ↓nthK_H, ↓nthH_zero, ↓aw_seq, ↓aw_skip, ↓aw_reg, ↓aw_draw, ↓Qseq_n, ↓ops_nil, ↓ops_cons, ↓eval_tmp, ↓eval_int, ↓eval_func, ↓put_some, ↓put_none, ↓iK_i, ↓ev_move, ↓ev_load, ↓ev_bin, ↓ev_ia, ↓binE_i, ↓bi_lss, ↓ldK_p, ↓ldK_e, ↓iaK_o, ↓op_move, ↓op_load, ↓op_call, ↓op_store, isD_d, ↓fnK_f, ↓call_H, ↓callK_H, ↓callKQ_H, ↓allT_nil, ↓allT_cons, ↓td_d, ↓draw_H, ↓h_cons, ↓ldH_n, ↓ldH_g, ↓q_call, ↓q_move, ↓q_load, ↓q_bin, ↓q_ia, ↓il_move, ↓il_load, ↓il_bin, ↓il_ia, ↓il_call, ↓setBox_mk, ↓st_tm, ↓st_bx, ↓row_sz, ↓row_xs, ↓cells_c, ↓vcells_c, ↓vcells_o, ↓one_i, ↓vone_d, ↓st_p, ↓ty3, ↓ty29, ↓sl29, ↓ty49, List.getD_cons_zero, List.getD_cons_succ, List.set_cons_zero, List.set_cons_succ, List.cons_append, List.nil_append, List.append_nil, List.length_cons, List.length_nil, List.all_cons, List.all_nil, Bool.true_and, Bool.and_self, Bool.true_or, Nat.reduceAdd, Nat.reduceSub, Nat.reduceMul, Nat.zero_add, Int.toNat_natCast, evK_go, reduceIte, Nat.reduceEqDiff, Nat.reduceLT, and_self, true_and, Int.zero_add, List.drop_zero, Int.ofNat_lt, Int.natCast_nonneg]
            refine OrH.l (OrH.l (OrH.r (draw_n 11 follows_mixed (by kernel_rfl) ?_)))
            simp (implicitDefEqProofs := false) (dsimp := false) only [hn_n, hn_g, hn_z, cells_fp, hcr, hlen', hd, ty54, ↓cdK_false, ↓gdK_f, ↓gval_mk, ↓gvL_zero, ↓gvL_succ, ↓optK_some, ↓rwK_mk_, ↓atK_H, ↓atH_map, ↓nthK_H, ↓nthH_zero, ↓ops_guard, ↓eval_tmp, ↓eval_int, ↓put_some, ↓iK_i, ↓ev_move, ↓ev_load, ↓ev_bin, ↓ev_ia, ↓binE_i, ↓bi_lss, ↓ldK_p, ↓ldK_e, ↓iaK_o, ↓op_call, isD_d, isD_fp, ↓fnK_f, ↓call_H, ↓callK_H, ↓allT_nil, ↓allT_cons, ↓td_d, ↓boxK_d, ↓td_fp, ↓bq_nil, ↓bq_cons, ↓q_move, ↓q_load, ↓q_bin, ↓q_ia, ↓st_tm, ↓row_sz, ↓row_xs, ↓cells_c, ↓cells_l, ↓vcells_o, ↓ty3, ↓ty29, ↓sl29, List.getD_cons_zero, List.getD_cons_succ, List.set_cons_zero, List.set_cons_succ, List.cons_append, List.nil_append, List.all_cons, List.all_nil, Bool.and_true, Bool.true_and, Bool.and_self, Nat.reduceAdd, Nat.reduceSub, Nat.reduceMul, Nat.zero_add, Int.toNat_natCast, evK_go, reduceIte, Nat.reduceEqDiff, Nat.reduceLT, and_self, true_and, and_true, Int.zero_add, List.drop_zero, Int.ofNat_lt, Int.natCast_nonneg]
            have hb' : seen.testBit c = false := hb
            have hunl : unseen right (seen ||| 2 ^ c) < m := by have := unseen_lt hcr hb'; omega
            have hrest' : ∀ y ∈ rest ++ [V.d (I .i64 (i : Int)), .d (Bo false)], ∀ z ∈ y.cells, z.below ((rest ++ [V.d (I .i64 (i : Int)), .d (Bo false)]).length + 4) := by
              intro y hy z hz
              rcases List.mem_append.1 hy with hy | hy
              · have h1 := hrest y hy z hz
                rw [List.length_append]
                cases z with
                | p b sub => show _ < _; have h1 : b < rest.length + 4 := h1; omega
                | fp fn ps => intro b hb; have h1 : b < rest.length + 4 := h1 b hb; omega
                | _ => trivial
              · simp (implicitDefEqProofs := false) (dsimp := false) only [List.mem_cons, List.not_mem_nil, or_false] at hy
                rcases hy with rfl | rfl
                · simp [V.cells, I] at hz; subst hz; trivial
                · simp [V.cells, Bo] at hz; subst hz; trivial
            have hts' := hts m x ⟨has, seen ||| 2 ^ c⟩ hok' hunl
            have hval : res = match tryF next m x ⟨has, seen ||| 2 ^ c⟩ with
                | (true, s2) => (true, (⟨s2.has.set c (i : Int), s2.seen⟩ : KS))
                | (false, s2) => tryL (tryF next m) i rs s2 := by
              rw [hthis]
              show (if _ then _ else (if _ then _ else _)) = _
              rw [if_neg (by rw [hb]; decide), if_neg (by show ¬ has.getD c default < 0; omega)]
              show (match tryF next m (has.getD c default).toNat ⟨has, seen ||| 2 ^ c⟩ with
                | (true, s2) => (true, (⟨s2.has.set c (i : Int), s2.seen⟩ : KS))
                | (false, s2) => tryL (tryF next m) i rs s2) = _
              rw [hx1, Int.toNat_natCast]
            rw [hx1]
            refine OrH.r (callM2 (fun gh => ih x ⟨has, seen ||| 2 ^ c⟩ (rest ++ [.d (I .i64 (i : Int)), .d (Bo false)]) restR gh hx2 hok' hlen' hor hunl hrest') rfl rfl rfl rfl rfl ?_)
            rintro d bx' rw' gh' ⟨rfl, rfl, rfl, rfl⟩
            refine ⟨rfl, ?_⟩
            generalize tryF next m x ⟨has, seen ||| 2 ^ c⟩ = r at hts' hval ⊢
            obtain ⟨b, has2, seen2⟩ := r
            simp only at hts' hval ⊢
            cases b with
            | true =>
              simp only at hval
              have hlen2 : has2.length = right := by
                have := (hts'.yes rfl).1.len
                simp only at this
                omega
              simp (implicitDefEqProofs := false) (dsimp := false) only [tB, tR, hcr, end0, end1, endS1, QB_r, QM_r, backN_mk, ↓cdK_true, ↓cdK_false, ↓optK_some, ↓rwK_mk_, ↓nthK_H, ↓nthH_zero, ↓aw_cond, ↓aw_seq, ↓aw_ret, ↓aw_reg, ↓Qseq_n, ↓Qseq_r, ↓Qblk_r, ↓ops_nil, ↓ops_cons, ↓eval_tmp, ↓eval_bool, ↓put_some, ↓put_none, ↓bK_b, ↓iK_i, ↓dK_d, ↓ldK_p, ↓iaK_o, ↓op_move, ↓op_pick, ↓op_load, ↓op_ia, ↓op_store, ↓setBox_mk, ↓setRow_mk, ↓st_bx, ↓st_rw, ↓st_gh, ↓row_sz, ↓row_xs, ↓cells_c, ↓vcells_c, ↓vcells_o, ↓one_i, ↓one_b, ↓vone_d, ↓st_p, ↓st_e, ↓ty3, ↓ty4, ↓ty29, ↓sl29, List.getD_cons_zero, List.getD_cons_succ, List.set_cons_zero, List.set_cons_succ, List.cons_append, List.nil_append, List.length_cons, List.length_nil, List.all_cons, List.all_nil, Bool.true_and, Bool.and_self, Nat.reduceAdd, Nat.reduceSub, Nat.reduceMul, Nat.zero_add, Int.toNat_natCast, evK_go, reduceIte, Nat.reduceEqDiff, Nat.reduceLT, and_self, true_and, Int.zero_add, List.drop_zero, List.take_succ_cons, List.drop_succ_cons, List.take_zero, Int.ofNat_lt, Int.natCast_nonneg]
              refine ret_of rfl (end1 _ _ _ _ _) ⟨rfl, ?_, ⟨.d (I .i64 (i : Int)), .d (Bo true), ?_⟩, ?_⟩
              · rw [hval]; try rfl
              · rw [hval]; try rfl
              · rw [hval]
                simp (implicitDefEqProofs := false) (dsimp := false) only [List.map_set]
            | false =>
              simp only at hval
              simp (implicitDefEqProofs := false) (dsimp := false) only [tB, tR, QB_n, backN_mk, ↓cdK_false, ↓aw_cond, ↓aw_skip, ↓Qseq_n, ↓Qblk_n, ↓ops_nil, ↓ops_cons, ↓eval_tmp, ↓put_some, ↓bK_b, ↓op_pick, List.getD_cons_zero, List.getD_cons_succ, List.set_cons_zero, List.set_cons_succ, List.cons_append, List.nil_append, List.length_cons, List.length_nil, Nat.reduceAdd, Nat.reduceSub, Nat.reduceMul, Nat.zero_add, evK_go, reduceIte, Nat.reduceEqDiff, Nat.reduceLT, Int.zero_add, List.drop_zero, List.take_succ_cons, List.drop_succ_cons, List.take_zero]
              have hno := hts'.no rfl
              simp only at hno
              have hun2 : unseen right seen2 ≤ unseen right seen := unseen_le fun j hj => hts'.mono j (by show (seen ||| 2 ^ c).testBit j = true; rw [Nat.testBit_or, hj]; rfl)
              refine ⟨⟨has2, seen2⟩, ⟨P ++ [c], by simp, hnext' _ hval, by rw [hno.1]; exact hok', by rw [hno.1]; exact hlen', hts'.lt hor, by show unseen right seen2 < m + 1; omega⟩, ?_⟩
              exact Wkn.refl _
      · rintro st ⟨P, hP, hrs, hok', hlen', hseen', hun'⟩
        have hP : P = pts (next.getD i default) := (ofNat_inj hP).symm
        have hthis := hrs [] (by rw [hP]; simp)
        simp (implicitDefEqProofs := false) (dsimp := false) only [slots, endS1, end1, QM_r, ↓aw_seq, ↓aw_ret, ↓aw_reg, ↓Qseq_n, ↓Qblk_n, ↓ops_nil, ↓ops_cons, ↓eval_tmp, ↓eval_bool, ↓put_none, ↓op_store, ↓setBox_mk, ↓st_bx, ↓st_rw, ↓st_gh, ↓vcells_c, ↓one_b, ↓vone_d, ↓st_p, ↓ty4, List.getD_cons_zero, List.getD_cons_succ, List.set_cons_zero, List.set_cons_succ, List.length_cons, List.length_nil, List.all_cons, List.all_nil, Bool.true_and, Bool.and_self, Nat.reduceAdd, Nat.reduceSub, Nat.reduceMul, Nat.zero_add, List.replicate, evK_go, reduceIte, Nat.reduceEqDiff, Nat.reduceLT, and_self, true_and, Int.zero_add, List.foldl_cons, List.foldl_nil]
        refine ret_of rfl (end1 _ _ _ _ _) ⟨?_, ⟨.d (I .i64 (i : Int)), .d (Bo false), ?_⟩, ?_⟩
        · rw [hthis]; try rfl
        · rw [hthis]; try rfl
        · rw [hthis]; try rfl
end Go.Proofs

namespace Go.Proofs
open Go.Aw
set_option linter.unusedSimpArgs false
set_option maxRecDepth 10000
def rootR (n : Int) (l : List (Int × Int)) : List Nat := if chk n l = 0 then (List.range n.toNat).map (rootP n.toNat (natL l)) else []
theorem wparts_spec (n : Int) (l : List (Int × Int)) (hpre : l.length < 2 ^ 62) : FnD Try.prog 23 [I .i64 n, .l (l.map lnD)] (.t [.l ((rootR n l).map nD), erD (chk n l)]) := by
  refine FnD.go Try.func23 rfl rfl Try.results23 Try.ntmps23 ?_
  simp (implicitDefEqProofs := false) (dsimp := false) only [↓aw_seq, ↓aw_reg, ↓Qseq_n, ↓ops_nil, ↓ops_cons, ↓eval_tmp, ↓eval_nil, ↓eval_func, ↓put_some, ↓op_move, ↓op_assign, ↓op_call, isD_d, ↓fnK_f, ↓call_H, ↓callK_H, ↓allT_nil, ↓allT_cons, ↓td_d, List.getD_cons_zero, List.getD_cons_succ, List.set_cons_zero, List.set_cons_succ, List.cons_append, List.nil_append, List.append_nil, List.map_cons, List.map_nil, List.length_cons, List.length_nil, List.all_cons, List.all_nil, Bool.and_self, Nat.reduceAdd, Nat.reduceSub, Nat.reduceMul, Nat.zero_add, List.replicate, evK_go, reduceIte, Nat.reduceEqDiff, Nat.reduceLT, and_self, Int.zero_add]
  simp (implicitDefEqProofs := false) (dsimp := false) only [gcheck_call, eval_nilI, ↓er_neq, er_flat, ↓cdK_not, ↓aw_cond, ↓aw_seq, ↓aw_reg, ↓Qseq_n, ↓ops_nil, ↓ops_cons, ↓eval_tmp, ↓put_some, ↓bK_b, ↓op_move, ↓op_assign, ↓op_bin, List.getD_cons_zero, List.getD_cons_succ, List.set_cons_zero, List.set_cons_succ, Bool.true_and, Bool.or_true, Nat.reduceAdd, Nat.reduceSub, Nat.reduceMul, evK_go, reduceIte, Nat.reduceEqDiff, Nat.reduceLT, true_and]
  refine OrH.l (OrH.l ⟨hpre, ?_⟩)
  refine cdK_dec (fun hc => ?_) (fun hc => ?_)
  rotate_left
  · simp (implicitDefEqProofs := false) (dsimp := false) only [rootR, hc, ↓aw_seq, ↓aw_ret, ↓aw_reg, ↓Qseq_n, ↓Qseq_r, ↓Qret_r, ↓ops_nil, ↓ops_cons, ↓eval_tmp, ↓eval_nil, ↓put_some, ↓op_move, ↓op_assign, ↓td_d, ↓td_nl, ↓ret_2, List.getD_cons_zero, List.getD_cons_succ, List.set_cons_zero, List.set_cons_succ, List.map_nil, Nat.reduceAdd, Nat.reduceSub, Nat.reduceMul, evK_go, reduceIte, decide_false, Bool.not_false, Nat.reduceEqDiff, Nat.reduceLT]
  have ok := chk_ok hc
  rw [show rootR n l = (List.range n.toNat).map (rootP n.toNat (natL l)) from if_pos hc, lnD_nat ok.rng, hc]
  have hcr := ok.cr
  have h8 := ok.hi
  have e0 := ok.n0
  clear ok hc hpre
  generalize n.toNat = m at *
  subst e0
  generalize natL l = L at *
  have hsg := symL_good hcr.2.2
  have hSl := outS_len m (symL L)
  have hSt := outS_lt' (n := m) (by omega) hsg
  have hw : 2 ^ m - 1 < 2 ^ m := by have := Nat.one_le_two_pow (n := m); omega
  have hw64 : 2 ^ m - 1 < 2 ^ 64 := Nat.lt_of_lt_of_le hw (Nat.pow_le_pow_right (by omega) (by omega))
  have hroot : ∀ k, rootP m L k = low (reach (outS m (symL L)) (2 ^ m - 1) k) := fun _ => rfl
  have hrk := fun k h => (rs_bit (n := m) (by omega) hsg (a := k) h k).2 .refl
  have hrl : ∀ k, k < m → rs m (symL L) k < 2 ^ 64 := fun k h => rs_lt (by omega) hsg h
  unfold rs at hrk hrl
  simp (implicitDefEqProofs := false) (dsimp := false) only [beside_callD, hcr, ↓aw_seq, ↓aw_block, ↓aw_skip, ↓aw_loop, ↓aw_reg, ↓Qseq_n, ↓ops_nil, ↓ops_cons, ↓eval_tmp, ↓eval_int, ↓eval_nil, ↓eval_func, ↓put_some, ↓op_move, ↓op_assign, ↓op_call, isD_d, ↓fnK_f, ↓call_H, ↓callK_H, ↓allT_nil, ↓allT_cons, ↓td_d, List.getD_cons_zero, List.getD_cons_succ, List.set_cons_zero, List.set_cons_succ, List.append_nil, List.all_cons, List.all_nil, Bool.true_and, Bool.and_self, Bool.true_or, Nat.reduceAdd, Nat.reduceSub, Nat.reduceMul, evK_go, reduceIte, decide_true, Bool.not_true, Nat.reduceEqDiff, Nat.reduceLT, and_self, true_and]
  (repeat refine OrH.l ?_)
  generalize outS m (symL L) = S at *
  refine loopW (fun k : Nat => { tm := slots 36 [(0, .d (I .i64 (m : Int))), (7, .d (.l (S.map U))), (8, .o 0 0 k), (19, .d (I .i64 (m : Int))), (20, .d (I .i64 k))], bx := [], rw := [some ⟨1, (((List.range m).take k).map (rootP m L)).map nD⟩] })
    (fun k => k ≤ m) (fun k => m - k) 0 (by simp) ?_ ?_
  · refine Wkn.of [] [none] ?_
    simp (implicitDefEqProofs := false) (dsimp := false) only [↓row_xs, List.set_cons_zero, List.set_cons_succ, List.map_nil, Bool.and_self, Nat.reduceAdd, Nat.reduceSub, Nat.reduceMul, List.replicate, evK_go, reduceIte, Nat.reduceEqDiff, Nat.reduceLT, and_self, List.take_zero, List.foldl_cons, List.foldl_nil, Int.cast_ofNat_Int, slots, wkL_nil, wkL_cons, wkB_nil, wkR_nil, wkR_new, wkV_j, wkV_d, nlK_nl, wkV_o, frz_d, oK_zn, reduceCtorEq]
  · intro k hk
    simp (implicitDefEqProofs := false) (dsimp := false) only [slots, ↓aw_cond, ↓aw_seq, ↓aw_reg, ↓Qseq_n, ↓ops_nil, ↓ops_cons, ↓eval_tmp, ↓put_some, ↓bK_b, ↓binE_i, ↓bi_lss, ↓op_bin, List.getD_cons_zero, List.getD_cons_succ, List.set_cons_zero, List.set_cons_succ, Nat.reduceAdd, Nat.reduceSub, Nat.reduceMul, List.replicate, evK_go, reduceIte, Nat.reduceEqDiff, Nat.reduceLT, List.foldl_cons, List.foldl_nil, Int.ofNat_lt]
    refine cdK_dec (fun h => ?_) (fun h => ?_)
    · have hkS : k < S.length := by omega
      have hm64 : m < 64 := by omega
      have hpre : k < S.length ∧ S.length ≤ 64 ∧ 2 ^ m - 1 < 2 ^ S.length ∧ ∀ x ∈ S, x < 2 ^ 64 := ⟨hkS, by omega, by rw [hSl]; exact hw, hSt⟩
      have hrk := hrk k h
      have hrl := hrl k h
      have hroot := hroot k
      simp (implicitDefEqProofs := false) (dsimp := false) only [h, hm64, below_call, reach_call, hpre, list_callD, hrl, ↓optK_some, ↓rwK_mk_, ↓atK_H, ↓atH_map, ↓aw_seq, ↓aw_block, ↓aw_skip, ↓aw_reg, ↓Qseq_n, ↓Qblk_n, ↓ops_nil, ↓ops_cons, ↓eval_tmp, ↓eval_int, ↓eval_func, ↓put_some, ↓iK_i, ↓dK_d, ↓binE_i, ↓bi_add, ↓in_i64, ↓ldK_q, ↓iaK_l, ↓op_move, ↓op_assign, ↓op_load, ↓op_bin, ↓op_ia, ↓op_append, ↓op_call, isD_d, ↓fnK_f, ↓call_H, ↓callK_H, ↓allT_nil, ↓allT_cons, ↓allD_nil, ↓allD_cons, ↓td_d, ↓app_mk, ↓row_sz, ↓row_xs, kill_d, kill_j, kill_o, ↓cells_c, ↓one_i, ↓ap_, ↓ap_o, ↓src_l, ↓bs_, ↓op_bs, ↓bsL_f, ↓stored_mk, ↓sl_nil, ↓sl_cons, ↓sT_move, ↓sT_assign, ↓sT_load, ↓sT_ia, ↓sT_bs, ↓sT_call, ↓vsz_int, ↓inO_1, ↓fm_nil, ↓fm_cons, ↓hd_cons, ↓ty3, ↓zb3, ↓sl29, List.getD_cons_zero, List.getD_cons_succ, List.set_cons_zero, List.set_cons_succ, List.append_nil, List.map_cons, List.map_nil, List.length_cons, List.length_nil, List.length_map, List.all_cons, List.all_nil, Bool.true_and, Bool.and_self, Bool.true_or, Bool.or_false, Nat.reduceAdd, Nat.reduceSub, Nat.reduceMul, Nat.zero_add, Int.toNat_zero, evK_go, reduceIte, decide_true, Nat.reduceEqDiff, Nat.reduceLT, and_self, true_and, Int.zero_add, List.drop_zero]
      (repeat refine OrH.l ?_)
      have hp : pts (reach S (2 ^ m - 1) k) ≠ [] := fun e => by
        have hm := (pts_mem _ _).2 ⟨by omega, hrk⟩
        rw [e] at hm; cases hm
      have e1 : (ptsI (reach S (2 ^ m - 1) k)).getD 0 default = (rootP m L k : Int) := by
        rw [hroot]
        unfold low ptsI
        cases hpp : pts (reach S (2 ^ m - 1) k) with
        | nil => exact absurd hpp hp
        | cons x t => rfl
      have hpos : 0 < (ptsI (reach S (2 ^ m - 1) k)).length := by rw [ptsI, List.length_map]; exact List.length_pos_iff.2 hp
      have e2 : (List.range m).take (k + 1) = (List.range m).take k ++ [k] := by
        rw [take_succ_getD (by simpa using h), List.getD_eq_getElem?_getD, List.getElem?_range h]; rfl
      refine ⟨hSt, ?_⟩
      (repeat refine OrH.l ?_)
      refine ⟨by omega, hpos, by decide, ⟨fun _ => trivial, by simp; omega, by omega, by omega⟩, by omega, k + 1, by omega, by omega, ?_⟩
      refine Wkn.of [] [some 0] ?_
      simp (implicitDefEqProofs := false) (dsimp := false) only [e1, e2, List.map_append, nD, List.getD_cons_zero, List.set_cons_zero, List.set_cons_succ, List.map_cons, List.map_nil, Bool.and_self, Nat.reduceAdd, Nat.reduceSub, Nat.reduceMul, List.replicate, evK_go, reduceIte, Nat.reduceEqDiff, Nat.reduceLT, and_self, List.foldl_cons, List.foldl_nil, Int.cast_ofNat_Int, Int.natCast_add, slots, wkL_nil, wkL_cons, wkB_nil, wkR_nil, wkR_some, wkV_j, wkV_d, wkV_o, frz_d, oK_zs, reduceCtorEq]
    · obtain rfl : k = m := by omega
      have e1 : (List.range k).take k = List.range k := List.take_of_length_le (by simp)
      have e2 : List.take k (List.map nD (List.map (rootP k L) (List.range k))) = ((List.range k).map (rootP k L)).map nD := List.take_of_length_le (by simp)
      simp (implicitDefEqProofs := false) (dsimp := false) only [e1, e2, erD_0, eval_nilI, ↓optK_some, ↓rwK_mk_, ↓aw_seq, ↓aw_exit, ↓aw_ret, ↓aw_reg, ↓Qseq_n, ↓Qseq_x, ↓Qblk_x, ↓Qret_r, ↓ops_nil, ↓ops_cons, ↓eval_tmp, ↓put_some, ↓op_move, ↓op_assign, ↓td_d, ↓td_o, ↓ret_2, ↓row_xs, List.getD_cons_zero, List.getD_cons_succ, List.set_cons_zero, List.set_cons_succ, Nat.reduceAdd, Nat.reduceSub, Nat.reduceMul, evK_go, reduceIte, decide_false, Nat.reduceEqDiff, Nat.reduceLT, Nat.lt_irrefl, List.drop_zero]
theorem wparts_call (n : Int) (l : List (Int × Int)) (pure : Bool) (σ : St) (dst : Option Tmp) (K : St → Prop) : CallH Try.prog 23 [I .i64 n, .l (l.map lnD)] pure σ dst (.mk : Hid K) = OrH ((l.length < 2 ^ 62) ∧ (pure || D.flat (.t [.l ((rootR n l).map nD), erD (chk n l)])) = true ∧ evK (σ.put dst (.d (.t [.l ((rootR n l).map nD), erD (chk n l)]))) (.mk : Hid K)) (.mk : Hid (CallH Try.prog 23 [I .i64 n, .l (l.map lnD)] pure σ dst (.mk : Hid K))) := CallH.eq (wparts_spec n l) pure σ dst K
def farR (n : Int) (l : List (Int × Int)) (f : Int) : List Int := if chk n l = 0 then (if inB f 0 (n - 1) = true then farL n.toNat (natL l) f.toNat else []) else []
def farE (n : Int) (l : List (Int × Int)) (f : Int) : Int := if chk n l = 0 then (if inB f 0 (n - 1) = true then 0 else 1) else chk n l
theorem bStart_len (n f : Nat) : (bStart n f).out.length = n := by simp [bStart]
def negK (n k : Nat) : List Int := List.replicate k (-1) ++ List.replicate (n - k) 0
theorem negK_zero (n : Nat) : negK n 0 = List.replicate n 0 := by simp [negK]
theorem negK_all (n : Nat) : negK n n = List.replicate n (-1) := by simp [negK]
theorem negK_len {n k : Nat} (h : k ≤ n) : (negK n k).length = n := by simp [negK]; omega
theorem negK_set {n k : Nat} (h : k < n) : (negK n k).set k (-1) = negK n (k + 1) := by
  refine List.ext_getElem (by simp [negK]; omega) fun i h1 h2 => ?_
  rw [List.getElem_set]
  simp (implicitDefEqProofs := false) (dsimp := false) only [negK, List.getElem_append, List.getElem_replicate, List.length_replicate]
  repeat' split
  all_goals first | rfl | omega
theorem inW_iff {x lo hi : Int} : inB x lo hi = true ↔ lo ≤ x ∧ x ≤ hi := by simp [inB]
structure FI where
  q : Nat
  pre : List Nat
  st : BS
theorem wfrom_spec (n : Int) (l : List (Int × Int)) (f : Int) (hpre : l.length < 2 ^ 62) : FnD Try.prog 24 [I .i64 n, .l (l.map lnD), I .i64 f] (.t [.l ((farR n l f).map (I .i64)), erD (farE n l f)]) := by
  refine FnD.go Try.func24 rfl rfl Try.results24 Try.ntmps24 ?_
  simp (implicitDefEqProofs := false) (dsimp := false) only [↓aw_seq, ↓aw_reg, ↓Qseq_n, ↓ops_nil, ↓ops_cons, ↓eval_tmp, ↓eval_nil, ↓eval_func, ↓put_some, ↓op_move, ↓op_assign, ↓op_call, isD_d, ↓fnK_f, ↓call_H, ↓callK_H, ↓allT_nil, ↓allT_cons, ↓td_d, List.getD_cons_zero, List.getD_cons_succ, List.set_cons_zero, List.set_cons_succ, List.cons_append, List.nil_append, List.append_nil, List.map_cons, List.map_nil, List.length_cons, List.length_nil, List.all_cons, List.all_nil, Bool.and_self, Nat.reduceAdd, Nat.reduceSub, Nat.reduceMul, Nat.zero_add, List.replicate, evK_go, reduceIte, Nat.reduceEqDiff, Nat.reduceLT, and_self, Int.zero_add]
  simp (implicitDefEqProofs := false) (dsimp := false) only [gcheck_call, eval_nilI, ↓er_neq, er_flat, ↓cdK_not, ↓aw_cond, ↓aw_seq, ↓aw_reg, ↓Qseq_n, ↓ops_nil, ↓ops_cons, ↓eval_tmp, ↓put_some, ↓bK_b, ↓op_move, ↓op_assign, ↓op_bin, List.getD_cons_zero, List.getD_cons_succ, List.set_cons_zero, List.set_cons_succ, Bool.true_and, Bool.or_true, Nat.reduceAdd, Nat.reduceSub, Nat.reduceMul, evK_go, reduceIte, Nat.reduceEqDiff, Nat.reduceLT, true_and]
  refine OrH.l (OrH.l ⟨hpre, ?_⟩)
  refine cdK_dec (fun hc => ?_) (fun hc => ?_)
  rotate_left
  · simp (implicitDefEqProofs := false) (dsimp := false) only [farR, farE, hc, ↓aw_seq, ↓aw_ret, ↓aw_reg, ↓Qseq_n, ↓Qseq_r, ↓Qret_r, ↓ops_nil, ↓ops_cons, ↓eval_tmp, ↓eval_nil, ↓put_some, ↓op_move, ↓op_assign, ↓td_d, ↓td_nl, ↓ret_2, List.getD_cons_zero, List.getD_cons_succ, List.set_cons_zero, List.set_cons_succ, List.map_nil, Nat.reduceAdd, Nat.reduceSub, Nat.reduceMul, evK_go, reduceIte, decide_false, Bool.not_false, Nat.reduceEqDiff, Nat.reduceLT]
  have ok := chk_ok hc
  have h8 := ok.hi
  have e0 := ok.n0
  simp (implicitDefEqProofs := false) (dsimp := false) only [within_call, ↓cdK_not, ↓aw_cond, ↓aw_seq, ↓aw_skip, ↓aw_reg, ↓Qseq_n, ↓ops_nil, ↓ops_cons, ↓eval_tmp, ↓eval_int, ↓eval_func, ↓put_some, ↓bK_b, ↓binE_i, ↓bi_sub, ↓in_i64, ↓op_move, ↓op_bin, ↓op_not, ↓op_call, isD_d, ↓fnK_f, ↓call_H, ↓callK_H, ↓allT_nil, ↓allT_cons, ↓td_d, List.getD_cons_zero, List.getD_cons_succ, List.set_cons_zero, List.set_cons_succ, List.append_nil, List.all_cons, List.all_nil, Bool.true_and, Bool.and_self, Bool.true_or, Nat.reduceAdd, Nat.reduceSub, Nat.reduceMul, evK_go, reduceIte, Nat.reduceEqDiff, Nat.reduceLT, and_self, true_and]
  (repeat refine OrH.l ?_)
  refine ⟨by omega, ?_⟩
  (repeat refine OrH.l ?_)
  rw [show farR n l f = (if inB f 0 (n - 1) = true then farL n.toNat (natL l) f.toNat else []) from if_pos hc, show farE n l f = (if inB f 0 (n - 1) = true then 0 else 1) from if_pos hc, lnD_nat ok.rng]
  refine cdK_split (fun hb => ?_) (fun hb => ?_)
  · obtain ⟨hf1, hf2⟩ := inW_iff.1 hb
    have hcr := ok.cr
    rw [if_pos hb, if_pos hb]
    simp (implicitDefEqProofs := false) (dsimp := false) only [hb, ↓optK_some, ↓rwK_mk_, ↓nthK_H, ↓nthH_zero, ↓aw_seq, ↓aw_block, ↓aw_skip, ↓aw_loop, ↓aw_reg, ↓Qseq_n, ↓ops_nil, ↓ops_cons, ↓eval_tmp, ↓eval_int, ↓put_some, ↓put_none, ↓iK_i, ↓dK_d, ↓lenK_o, ↓ldK_p, ↓op_move, ↓op_load, ↓op_len, ↓op_alloc, ↓op_store, ↓op_make, ↓addBox_mk, ↓addRow_mk, ↓setBox_mk, ↓st_bx, ↓st_rw, ↓cells_c, ↓vcells_nl, ↓vcells_o, ↓one_i, ↓vone_o, constV_i, constV_n, ↓st_p, ↓mk_, ↓vsz_int, ↓ty3, ↓zb3, ↓ty29, ↓sl29, ↓zb29, List.getD_cons_zero, List.getD_cons_succ, List.set_cons_zero, List.set_cons_succ, List.nil_append, List.length_cons, List.length_nil, List.all_cons, List.all_nil, Bool.and_true, Bool.true_and, Bool.and_self, Nat.reduceAdd, Nat.reduceSub, Nat.reduceMul, Nat.zero_add, evK_go, reduceIte, Bool.not_true, Nat.reduceEqDiff, Nat.reduceLT, and_self, true_and, and_true, Int.zero_add]
    refine ⟨⟨by omega, by omega, by decide⟩, ?_⟩
    rw [hc]
    have ef : f = (f.toNat : Int) := by omega
    have hfm : f.toNat < n.toNat := by omega
    clear ok hc hpre hb hf1 hf2
    generalize n.toNat = m at *
    generalize f.toNat = f' at *
    subst e0 ef
    generalize natL l = L at *
    have hsg := symL_good hcr.2.2
    have hSl := outS_len m (symL L)
    have hSt := outS_lt' (n := m) (by omega) hsg
    refine loopW (fun k : Nat => { tm := slots 79 [(0, .d (I .i64 (m : Int))), (1, .d (.l (L.map lnN))), (2, .d (I .i64 (f' : Int))), (9, .p 0 0), (29, .d (I .i64 (m : Int))), (30, .d (I .i64 k))], bx := [.o 0 0 m], rw := [some ⟨1, (negK m k).map (I .i64)⟩] })
      (fun k => k ≤ m) (fun k => m - k) 0 (by simp) ?_ ?_
    · refine Wkn.of [0] [some 0] ?_
      simp (implicitDefEqProofs := false) (dsimp := false) only [negK_zero, List.map_replicate, ↓vcells_o, List.getD_cons_zero, List.set_cons_zero, List.set_cons_succ, List.length_cons, List.length_nil, Bool.and_self, Nat.reduceAdd, Nat.reduceSub, Nat.reduceMul, Nat.zero_add, List.replicate, evK_go, reduceIte, decide_true, Bool.not_true, Nat.reduceEqDiff, Nat.reduceLT, and_self, Int.zero_add, List.foldl_cons, List.foldl_nil, Int.cast_ofNat_Int, slots, wkL_nil, wkL_cons, wkB_nil, wkB_cons, wkR_nil, wkR_some, wkV_j, wkV_d, wkV_o, wkV_p, frz_d, oK_zs, pK_z, reduceCtorEq]
    · intro k hk
      have hnl := negK_len hk
      simp (implicitDefEqProofs := false) (dsimp := false) only [slots, ↓aw_cond, ↓aw_seq, ↓aw_reg, ↓Qseq_n, ↓ops_nil, ↓ops_cons, ↓eval_tmp, ↓put_some, ↓bK_b, ↓binE_i, ↓bi_lss, ↓op_bin, List.getD_cons_zero, List.getD_cons_succ, List.set_cons_zero, List.set_cons_succ, Nat.reduceAdd, Nat.reduceSub, Nat.reduceMul, List.replicate, evK_go, reduceIte, Nat.reduceEqDiff, Nat.reduceLT, List.foldl_cons, List.foldl_nil, Int.ofNat_lt]
      refine cdK_dec (fun h => ?_) (fun h => ?_)
      · have hns := negK_set h
        simp (implicitDefEqProofs := false) (dsimp := false) only [h, ↓optK_some, ↓rwK_mk_, ↓nthK_H, ↓nthH_zero, ↓aw_seq, ↓aw_block, ↓aw_skip, ↓aw_reg, ↓Qseq_n, ↓Qblk_n, ↓ops_nil, ↓ops_cons, ↓eval_tmp, ↓eval_int, ↓put_some, ↓put_none, ↓iK_i, ↓dK_d, ↓binE_i, ↓bi_add, ↓in_i64, ↓ldK_p, ↓iaK_o, ↓op_move, ↓op_assign, ↓op_load, ↓op_bin, ↓op_ia, ↓op_store, ↓setRow_mk, ↓row_sz, ↓row_xs, ↓cells_c, ↓vcells_o, ↓one_i, ↓st_e, ↓ty3, ↓ty29, ↓sl29, List.getD_cons_zero, List.getD_cons_succ, List.set_cons_zero, List.set_cons_succ, List.length_cons, List.length_nil, List.all_cons, List.all_nil, Bool.true_and, Bool.and_self, Nat.reduceAdd, Nat.reduceSub, Nat.reduceMul, Nat.zero_add, Int.toNat_natCast, evK_go, reduceIte, decide_true, Nat.reduceEqDiff, Nat.reduceLT, and_self, true_and, Int.zero_add, Int.ofNat_lt, Int.natCast_nonneg]
        refine ⟨by omega, k + 1, by omega, by omega, ?_⟩
        refine Wkn.of [0] [some 0] ?_
        simp (implicitDefEqProofs := false) (dsimp := false) only [← hns, List.map_set, ↓vcells_o, List.getD_cons_zero, List.set_cons_zero, List.set_cons_succ, List.length_cons, List.length_nil, Bool.and_self, Nat.reduceAdd, Nat.reduceSub, Nat.reduceMul, Nat.zero_add, List.replicate, evK_go, reduceIte, Nat.reduceEqDiff, Nat.reduceLT, and_self, Int.zero_add, List.foldl_cons, List.foldl_nil, Int.cast_ofNat_Int, Int.natCast_add, slots, wkL_nil, wkL_cons, wkB_nil, wkB_cons, wkR_nil, wkR_some, wkV_j, wkV_d, wkV_o, wkV_p, frz_d, oK_zs, pK_z, reduceCtorEq]
      · obtain rfl : k = m := by omega
        have hst0 : (List.map (I .i64) (negK k k)).set f' (I .i64 0) = ((bStart k f').out).map (I .i64) := by rw [negK_all, bStart, List.map_set]
        have hbl := bStart_len k f'
        obtain ⟨hBI0, hBC0, hrm0⟩ := BI.start hsg hfm
        have hfar : farL k L f' = (bRun (outS k (symL L)) k (bStart k f')).out := rfl
        have htd : (bStart k f').todo = [f'] := rfl
        have hstep := fun s h1 h2 h3 => BI.step (n := k) (l := symL L) (f := f') (by omega) hsg (s := s) h1 h2 h3
        have hjs := fun x (hx : x < k) => BI.js hsg (f := f') hx
        have hmem := fun a b => mem_next (n := k) (by omega) hsg (i := a) (j := b)
        simp (implicitDefEqProofs := false) (dsimp := false) only [hst0, beside_callD, hcr, ↓optK_some, ↓rwK_mk_, ↓nthK_H, ↓nthH_zero, ↓aw_seq, ↓aw_block, ↓aw_exit, ↓aw_loop, ↓aw_reg, ↓Qseq_n, ↓Qseq_x, ↓Qblk_x, ↓ops_nil, ↓ops_cons, ↓eval_tmp, ↓eval_int, ↓eval_func, ↓put_some, ↓put_none, ↓iK_i, ↓dK_d, ↓ldK_p, ↓iaK_o, ↓op_move, ↓op_assign, ↓op_load, ↓op_ia, ↓op_call, ↓op_alloc, ↓op_store, isD_d, ↓fnK_f, ↓call_H, ↓callK_H, ↓allT_nil, ↓allT_cons, ↓allD_nil, ↓allD_cons, ↓td_d, ↓addBox_mk, ↓addRow_mk, ↓setBox_mk, ↓setRow_mk, ↓st_bx, ↓st_rw, ↓row_sz, ↓row_xs, ↓cells_c, ↓vcells_nl, ↓vcells_o, ↓one_i, ↓vone_o, constV_n, ↓st_p, ↓st_e, ↓bs_, ↓op_bs, ↓bsL_t, ↓stored_mk, ↓sl_nil, ↓sl_cons, ↓st_store_t, ↓sT_move, ↓sT_bs, ↓sT_alloc, ↓beq_some, ↓vsz_int, ↓inO_1, ↓fm_nil, ↓fm_cons, ↓ty3, ↓zb3, ↓ty29, ↓sl29, ↓zb29, List.getD_cons_zero, List.getD_cons_succ, List.set_cons_zero, List.set_cons_succ, List.cons_append, List.nil_append, List.append_nil, List.map_cons, List.map_nil, List.length_cons, List.length_nil, List.all_cons, List.all_nil, Bool.true_and, Bool.and_self, Bool.or_true, Bool.true_or, Bool.or_false, Nat.reduceAdd, Nat.reduceSub, Nat.reduceMul, Nat.zero_add, Int.toNat_natCast, evK_go, reduceIte, decide_true, decide_false, Nat.reduceEqDiff, Nat.reduceLT, and_self, true_and, Nat.lt_irrefl, Int.zero_add, Int.ofNat_lt, Int.natCast_nonneg]
        refine ⟨hfm, ?_⟩
        (repeat refine OrH.l ?_)
        generalize bStart k f' = s0 at *
        generalize outS k (symL L) = S at *
        refine ⟨by decide, ?_⟩
        refine loopW (fun x : FI => { tm := slots 79 [(0, .d (I .i64 (k : Int))), (9, .p 0 0), (11, .d (.l (S.map U))), (12, .p 1 0)], bx := [.o 0 0 k, .o 1 x.pre.length x.st.todo.length], rw := [some ⟨1, x.st.out.map (I .i64)⟩, some ⟨1, (x.pre ++ x.st.todo).map nD⟩] })
          (fun x => BI k (symL L) f' x.st ∧ BC (symL L) x.st (fun _ => False) ∧ x.st.todo.length + negs x.st.out ≤ x.q ∧ x.q ≤ k ∧ bRun S x.q x.st = bRun S k s0) (fun x => x.q) ⟨k, [], s0⟩ ⟨hBI0, hBC0, by show s0.todo.length + negs s0.out ≤ k; omega, Nat.le_refl _, rfl⟩ ?_ ?_
        · refine Wkn.of [0, 1] [some 0, some 1] ?_
          simp (implicitDefEqProofs := false) (dsimp := false) only [htd, nD, List.map_cons, List.map_nil, List.nil_append, List.length_nil, List.length_cons, ↓vcells_o, List.getD_cons_zero, List.getD_cons_succ, List.set_cons_zero, List.set_cons_succ, List.nil_append, List.map_cons, List.map_nil, List.length_cons, List.length_nil, Bool.and_self, Nat.reduceAdd, Nat.reduceSub, Nat.reduceMul, Nat.zero_add, List.replicate, evK_go, reduceIte, Nat.reduceEqDiff, Nat.reduceLT, and_self, Int.zero_add, List.foldl_cons, List.foldl_nil, slots, wkL_nil, wkL_cons, wkB_nil, wkB_cons, wkR_nil, wkR_some, wkV_j, wkV_d, wkV_o, wkV_p, frz_d, oK_zs, oK_s, pK_z, pK_s, reduceCtorEq]
        · rintro ⟨q, pre, s⟩ ⟨hI, hC, hr, hqk, hrun⟩
          simp only at hI hC hr hqk hrun
          simp (implicitDefEqProofs := false) (dsimp := false) only [slots, ↓optK_some, ↓rwK_mk_, ↓nthK_H, ↓nthH_zero, ↓aw_cond, ↓aw_seq, ↓aw_reg, ↓Qseq_n, ↓ops_nil, ↓ops_cons, ↓eval_tmp, ↓eval_int, ↓put_some, ↓bK_b, ↓lenK_o, ↓binE_i, ↓bi_gtr, ↓ldK_p, ↓op_load, ↓op_bin, ↓op_len, ↓vcells_o, ↓ty29, ↓sl29, List.getD_cons_zero, List.getD_cons_succ, List.set_cons_zero, List.set_cons_succ, Nat.reduceAdd, Nat.reduceSub, Nat.reduceMul, List.replicate, evK_go, reduceIte, Nat.reduceEqDiff, Nat.reduceLT, List.foldl_cons, List.foldl_nil]
          refine cdK_dec (fun h1 => ?_) (fun h1 => ?_)
          · have hne : s.todo ≠ [] := fun e => by rw [e] at h1; simp at h1
            obtain ⟨hI', hC', hr'⟩ := hstep s hI hC hne
            obtain ⟨x, t, e⟩ := List.exists_cons_of_ne_nil hne
            have ex : s.todo.getD 0 default = x := by rw [e]; rfl
            have hx := hI.todo x (by rw [e]; simp)
            have hel : (pre ++ s.todo).getD pre.length default = x := by
              rw [List.getD_eq_getElem?_getD, List.getElem?_append_right (Nat.le_refl _), Nat.sub_self, e]; rfl
            have hell : pre.length < (pre ++ s.todo).length := by rw [List.length_append, e]; simp
            have hxS : x < S.length := by omega
            have hxt := hSt _ (getD_mem hxS)
            simp (implicitDefEqProofs := false) (dsimp := false) only [hel, hell, hxS, nD, each_call, ↓optK_some, ↓rwK_mk_, ↓atK_H, ↓atH_map, ↓nthK_H, ↓nthH_zero, ↓aw_seq, ↓aw_block, ↓aw_skip, ↓aw_rng, ↓aw_reg, ↓Qseq_n, ↓ops_nil, ↓ops_cons, ↓eval_tmp, ↓eval_int, ↓eval_func, ↓put_some, ↓iK_i, ↓ldK_q, ↓ldK_p, ↓ldK_e, ↓iaK_l, ↓iaK_o, ↓op_move, ↓op_load, ↓op_ia, ↓op_call, isD_d, ↓fnK_f, ↓call_H, ↓callK_H, ↓allT_nil, ↓allT_cons, ↓td_d, ↓row_sz, ↓row_xs, ↓cells_c, ↓vcells_o, ↓hd_cons, ↓ty3, ↓ty29, ↓sl29, ↓sl45, ↓ty49, List.getD_cons_zero, List.getD_cons_succ, List.set_cons_zero, List.set_cons_succ, List.append_nil, List.length_cons, List.length_nil, List.all_cons, List.all_nil, Bool.true_and, Bool.and_self, Bool.true_or, Nat.reduceAdd, Nat.reduceSub, Nat.reduceMul, Nat.zero_add, Nat.add_zero, Int.toNat_natCast, Int.toNat_zero, evK_go, reduceIte, Nat.reduceEqDiff, Nat.reduceLT, and_self, true_and, Int.zero_add, Int.natCast_nonneg]
            refine ⟨⟨by omega, h1⟩, ?_⟩
            (repeat refine OrH.l ?_)
            refine rangeW (slots 79 [(0, .d (I .i64 (k : Int))), (9, .p 0 0), (11, .d (.l (S.map U))), (12, .p 1 0), (56, .d (.f (.func 40) [.q [U (S.getD x default)]]))])
              (fun y : FI => [.o 0 0 k, .o 1 y.pre.length y.st.todo.length]) (fun y => [some ⟨1, y.st.out.map (I .i64)⟩, some ⟨1, (y.pre ++ y.st.todo).map nD⟩])
              (fun ys y => ∃ P : List Nat, ys = P.map Int.ofNat ∧ y.st = P.foldl (bJ x) s) ⟨0, pre, s⟩
              (by simp [slots]) (each_iter _ hxt) ?_ ⟨[], rfl, rfl⟩ ?_ ?_ ?_
            · simp (implicitDefEqProofs := false) (dsimp := false) only [slots, ↓eval_tmp, List.getD_cons_zero, List.getD_cons_succ, List.set_cons_zero, List.set_cons_succ, Nat.reduceAdd, Nat.reduceSub, Nat.reduceMul, List.replicate, evK_go, reduceIte, Nat.reduceEqDiff, Nat.reduceLT, List.foldl_cons, List.foldl_nil]
            · refine Wkn.of [0, 1] [some 0, some 1] ?_
              simp (implicitDefEqProofs := false) (dsimp := false) only [↓vcells_o, List.getD_cons_zero, List.getD_cons_succ, List.set_cons_zero, List.set_cons_succ, List.length_cons, List.length_nil, Bool.and_self, Nat.reduceAdd, Nat.reduceSub, Nat.reduceMul, Nat.zero_add, List.replicate, evK_go, reduceIte, Nat.reduceEqDiff, Nat.reduceLT, and_self, Int.zero_add, List.foldl_cons, List.foldl_nil, slots, wkL_nil, wkL_cons, wkB_nil, wkB_cons, wkR_nil, wkR_some, wkV_j, wkV_d, wkV_o, wkV_p, frz_d, oK_zs, oK_s, pK_z, pK_s, reduceCtorEq]
            · rintro ys y ⟨q', pre', s'⟩ hpx ⟨P, rfl, hs'⟩
              obtain ⟨P', c, hP, rfl, hcc⟩ := prefix_map hpx
              obtain rfl : P = P' := ofNat_inj hP
              simp only at hs'
              have hcm : c ∈ pts (S.getD x default) := hcc.subset (by simp : c ∈ P ++ [c])
              have hsub : ∀ j ∈ P, (x, j) ∈ symL L := fun j hj => (hmem x j).1 (hcc.subset (by simp [hj]))
              obtain ⟨g1, g2, g3, g4, g5, g6⟩ := hjs x hx.1 P s hI hx.2 hsub
              have hn' : (P ++ [c]).foldl (bJ x) s = bJ x s' c := by rw [List.foldl_append, ← hs']; rfl
              rw [← hs'] at g1 g2 g3 g4 g5 g6
              have hck := (hsg _ ((hmem x c).1 hcm)).2
              have hol := g1.len
              have hg2 := g2 x hx.2
              have hx0 := hx.2
              rw [← hg2] at hx0
              simp (implicitDefEqProofs := false) (dsimp := false) only [slots, hck, hol, ↓optK_some, ↓rwK_mk_, ↓atK_H, ↓atH_map, ↓nthK_H, ↓nthH_zero, ↓aw_cond, ↓aw_seq, ↓aw_block, ↓aw_reg, ↓Qseq_n, ↓ops_nil, ↓ops_cons, ↓eval_tmp, ↓eval_int, ↓put_some, ↓bK_b, ↓iK_i, ↓binE_i, ↓bi_lss, ↓ldK_p, ↓ldK_e, ↓iaK_o, ↓op_move, ↓op_assign, ↓op_load, ↓op_bin, ↓op_ia, ↓row_sz, ↓row_xs, ↓cells_c, ↓vcells_o, ↓Qn_n, ↓ty3, ↓ty29, ↓sl29, List.getD_cons_zero, List.getD_cons_succ, List.set_cons_zero, List.set_cons_succ, Bool.true_and, Bool.and_self, Nat.reduceAdd, Nat.reduceSub, Nat.reduceMul, Nat.zero_add, Int.toNat_natCast, List.replicate, evK_go, reduceIte, Nat.reduceEqDiff, Nat.reduceLT, and_self, true_and, Int.zero_add, List.foldl_cons, List.foldl_nil, Int.ofNat_lt, Int.natCast_nonneg]
              refine cdK_dec (fun h2 => ?_) (fun h2 => ?_)
              · have hb2 : bJ x s' c = ⟨s'.out.set c (s'.out.getD x default + 1), s'.todo ++ [c]⟩ := if_pos h2
                obtain ⟨u, hu⟩ := g4
                have hel' : (pre' ++ s'.todo).getD pre'.length default = x := by
                  rw [List.getD_eq_getElem?_getD, List.getElem?_append_right (Nat.le_refl _), Nat.sub_self, ← hu, e]; rfl
                have hell' : pre'.length < (pre' ++ s'.todo).length := by rw [List.length_append, ← hu, e]; simp
                have htl : 0 < s'.todo.length := by rw [← hu, e]; simp
                have hxk := hx.1
                have hdr : List.drop pre'.length (List.map nD (pre' ++ s'.todo)) = List.map nD s'.todo := by rw [← List.map_drop, List.drop_left]
                have hvx : s'.out.getD x default ≤ 8 := by
                  rcases g1.val x hxk with h3 | ⟨k0, h3, _, h4⟩
                  · omega
                  · omega
                simp (implicitDefEqProofs := false) (dsimp := false) only [hel', hell', hxk, hck, hol, hdr, nD, ↓optK_some, ↓rwK_mk_, ↓atK_H, ↓atH_map, ↓nthK_H, ↓nthH_zero, ↓aw_seq, ↓aw_reg, ↓aw_draw, ↓Qseq_n, ↓Qblk_n, ↓ops_nil, ↓ops_cons, ↓eval_tmp, ↓eval_int, ↓put_some, ↓put_none, ↓iK_i, ↓dK_d, ↓ev_move, ↓ev_load, ↓ev_bin, ↓ev_ia, ↓binE_i, ↓bi_add, ↓in_i64, ↓ldK_p, ↓ldK_e, ↓iaK_o, ↓op_move, ↓op_load, ↓op_append, ↓op_store, ↓allD_nil, ↓allD_cons, ↓draw_H, ↓h_cons, ↓ldH_t, ↓ldH_n, ↓q_move, ↓q_load, ↓q_bin, ↓q_ia, ↓il_move, ↓il_load, ↓il_bin, ↓il_ia, ↓il_store, ↓setBox_mk, ↓setRow_mk, ↓app_mk, ↓st_bx, ↓row_sz, ↓row_xs, kill_d, kill_j, kill_p, kill_o, kill_e, ↓cells_c, ↓vcells_j, ↓vcells_o, ↓one_i, ↓vone_o, ↓st_p, ↓st_e, ↓ap_, ↓ap_o, ↓src_l, ↓bs_, ↓op_bs, ↓bsL_f, ↓stored_mk, ↓sl_nil, ↓sl_cons, ↓st_store_t, ↓sT_move, ↓sT_load, ↓sT_bs, ↓sT_call, ↓beq_some, ↓vsz_int, ↓inO_1, ↓fm_nil, ↓fm_cons, ↓Qrd_n, ↓back_mk, ↓ty3, ↓zb3, ↓ty29, ↓sl29, List.getD_cons_zero, List.getD_cons_succ, List.set_cons_zero, List.set_cons_succ, List.map_cons, List.map_nil, List.length_cons, List.length_nil, List.length_map, List.all_cons, List.all_nil, Bool.true_and, Bool.and_self, Bool.or_false, Nat.reduceAdd, Nat.reduceSub, Nat.reduceMul, Nat.zero_add, Nat.add_zero, Int.toNat_natCast, Int.toNat_zero, evK_go, reduceIte, decide_false, Nat.reduceEqDiff, Nat.reduceLT, and_self, true_and, Int.zero_add, Int.ofNat_lt, Int.natCast_nonneg]
                refine OrH.l ⟨DrawH.of follows_mixed (by kernel_rfl), ⟨by omega, by omega⟩, ⟨by omega, by omega⟩, by decide, ⟨fun h => (by cases h), by simp, by omega, by omega⟩, ⟨q', [], bJ x s' c⟩, ⟨P ++ [c], by simp, by rw [hn']⟩, ?_⟩
                refine Wkn.of [0, 1] [some 0, some 1] ?_
                simp (implicitDefEqProofs := false) (dsimp := false) only [hb2, List.map_set, List.nil_append, List.map_append, List.length_append, List.length_nil, nD, ↓vcells_o, List.getD_cons_zero, List.getD_cons_succ, List.set_cons_zero, List.set_cons_succ, List.nil_append, List.map_cons, List.map_nil, List.length_cons, List.length_nil, Bool.and_self, Nat.reduceAdd, Nat.reduceSub, Nat.reduceMul, Nat.zero_add, List.replicate, evK_go, reduceIte, Nat.reduceEqDiff, Nat.reduceLT, and_self, Int.zero_add, List.foldl_cons, List.foldl_nil, slots, wkL_nil, wkL_cons, wkB_nil, wkB_cons, wkR_nil, wkR_some, wkV_j, wkV_d, wkV_o, wkV_p, frz_d, oK_zs, oK_s, pK_z, pK_s, reduceCtorEq]
              · have hb2 : bJ x s' c = s' := if_neg h2
                simp (implicitDefEqProofs := false) (dsimp := false) only [↓aw_skip, ↓Qblk_n, ↓Qrd_n, ↓back_mk, Nat.reduceAdd, Nat.reduceSub, Nat.reduceMul, evK_go, reduceIte, Nat.reduceEqDiff, Nat.reduceLT]
                refine ⟨⟨q', pre', s'⟩, ⟨P ++ [c], by simp, by rw [hn', hb2]⟩, ?_⟩
                refine Wkn.of [0, 1] [some 0, some 1] ?_
                simp (implicitDefEqProofs := false) (dsimp := false) only [↓vcells_o, List.getD_cons_zero, List.getD_cons_succ, List.set_cons_zero, List.set_cons_succ, List.length_cons, List.length_nil, Bool.and_self, Nat.reduceAdd, Nat.reduceSub, Nat.reduceMul, Nat.zero_add, List.replicate, evK_go, reduceIte, Nat.reduceEqDiff, Nat.reduceLT, and_self, Int.zero_add, List.foldl_cons, List.foldl_nil, slots, wkL_nil, wkL_cons, wkB_nil, wkB_cons, wkR_nil, wkR_some, wkV_j, wkV_d, wkV_o, wkV_p, frz_d, oK_zs, oK_s, pK_z, pK_s, reduceCtorEq]
            · rintro ⟨q', pre', s'⟩ ⟨P, hP, hs'⟩
              obtain rfl : pts (S.getD x default) = P := ofNat_inj hP
              simp only at hs'
              obtain ⟨g1, g2, g3, ⟨u, hu⟩, g5, g6⟩ := hjs x hx.1 _ s hI hx.2 (fun j hj => (hmem x j).1 hj)
              have hbs : bStep S s = ⟨s'.out, s'.todo.drop 1⟩ := by unfold bStep bIn; rw [ex, ← hs']
              rw [← hs', e] at hu
              have htd' : s'.todo = x :: (t ++ u) := hu.symm
              cases q with
              | zero => rw [e] at hr; simp at hr
              | succ q =>
              have hrn : bRun S (q + 1) s = bRun S q (bStep S s) := if_neg hne
              have e3 : ((s'.todo.length : Int) - 1).toNat = (s'.todo.drop 1).length := by rw [List.length_drop]; omega
              have e4 : List.map nD (pre' ++ s'.todo) = List.map nD ((pre' ++ [x]) ++ s'.todo.drop 1) := by rw [htd']; simp
              have hlp : 0 < s'.todo.length := by rw [htd']; simp
              simp (implicitDefEqProofs := false) (dsimp := false) only [slots, ↓optK_some, ↓rwK_mk_, ↓nthK_H, ↓nthH_zero, ↓aw_seq, ↓aw_reg, ↓Qseq_n, ↓Qblk_n, ↓ops_nil, ↓ops_cons, ↓eval_tmp, ↓eval_int, ↓put_some, ↓put_none, ↓iK_i, ↓optI_none, ↓optI_some, ↓ldK_p, ↓sliK_o, ↓op_load, ↓op_slice, ↓op_alloc, ↓op_store, ↓addBox_mk, ↓setBox_mk, ↓st_bx, ↓row_sz, ↓vcells_nl, ↓vcells_o, ↓vone_o, constV_n, ↓st_p, ↓ty3, ↓ty29, ↓sl29, ↓zb29, List.getD_cons_zero, List.getD_cons_succ, List.set_cons_zero, List.set_cons_succ, List.cons_append, List.nil_append, List.length_cons, List.length_nil, List.all_cons, List.all_nil, Bool.true_and, Bool.and_self, Nat.reduceAdd, Nat.reduceSub, Nat.reduceMul, Nat.zero_add, Int.toNat_one, List.replicate, evK_go, reduceIte, Nat.reduceEqDiff, Nat.reduceLT, and_self, true_and, Option.getD_none, Option.getD_some, Int.zero_add, List.foldl_cons, List.foldl_nil, Int.ofNat_le]
              refine ⟨⟨by omega, by omega, by omega⟩, ⟨q, pre' ++ [x], bStep S s⟩, ⟨hI', hC', ?_, ?_, ?_⟩, ?_, ?_⟩
              · show (bStep S s).todo.length + negs (bStep S s).out ≤ q
                omega
              · show q ≤ k
                omega
              · rw [← hrun, hrn]
              · show q < q + 1
                omega
              · refine Wkn.of [0, 2] [some 0, some 1] ?_
                rw [hbs]
                simp (implicitDefEqProofs := false) (dsimp := false) only [e3, e4, List.length_append, List.length_cons, List.length_nil, ↓vcells_o, List.getD_cons_zero, List.getD_cons_succ, List.length_cons, List.length_nil, Bool.and_self, Nat.reduceAdd, Nat.reduceSub, Nat.reduceMul, Nat.zero_add, evK_go, reduceIte, Nat.reduceEqDiff, Nat.reduceLT, and_self, Int.zero_add, slots, wkL_nil, wkL_cons, wkB_nil, wkB_cons, wkR_nil, wkR_some, wkV_j, wkV_d, wkV_o, wkV_p, frz_d, oK_zs, oK_s, pK_z, pK_s, reduceCtorEq]
          · have ht : s.todo = [] := List.eq_nil_of_length_eq_zero (by omega)
            have hq : bRun S q s = s := by cases q with | zero => rfl | succ q => exact if_pos ht
            have hol := hI.len
            have e1 : farL k L f' = s.out := by rw [hfar, ← hrun, hq]
            have e2 : List.take k (List.map (I .i64) s.out) = List.map (I .i64) s.out := List.take_of_length_le (by simp; omega)
            simp (implicitDefEqProofs := false) (dsimp := false) only [e1, e2, erD_0, eval_nilI, ↓optK_some, ↓rwK_mk_, ↓nthK_H, ↓nthH_zero, ↓aw_seq, ↓aw_exit, ↓aw_ret, ↓aw_reg, ↓Qseq_n, ↓Qseq_x, ↓Qblk_x, ↓Qret_r, ↓ops_nil, ↓ops_cons, ↓eval_tmp, ↓put_some, ↓ldK_p, ↓op_assign, ↓op_load, ↓td_d, ↓td_o, ↓ret_2, ↓row_xs, ↓vcells_o, ↓ty29, List.getD_cons_zero, List.getD_cons_succ, List.set_cons_zero, List.set_cons_succ, Nat.reduceAdd, Nat.reduceSub, Nat.reduceMul, evK_go, reduceIte, Nat.reduceEqDiff, Nat.reduceLT, List.drop_zero]
  · simp (implicitDefEqProofs := false) (dsimp := false) only [hb, ↓aw_seq, ↓aw_ret, ↓aw_reg, ↓Qseq_n, ↓Qseq_r, ↓Qret_r, ↓ops_nil, ↓ops_cons, ↓eval_tmp, ↓eval_int, ↓eval_nil, ↓put_some, ↓vK_c, ↓op_assign, ↓op_iface, ↓td_d, ↓td_nl, ↓ret_2, ↓nc43, List.getD_cons_zero, List.getD_cons_succ, List.set_cons_zero, List.set_cons_succ, Bool.true_and, Nat.reduceAdd, Nat.reduceSub, Nat.reduceMul, evK_go, reduceIte, Bool.not_false, Nat.reduceEqDiff, Nat.reduceLT, true_and]
    rfl
theorem wfrom_call (n : Int) (l : List (Int × Int)) (f : Int) (pure : Bool) (σ : St) (dst : Option Tmp) (K : St → Prop) : CallH Try.prog 24 [I .i64 n, .l (l.map lnD), I .i64 f] pure σ dst (.mk : Hid K) = OrH ((l.length < 2 ^ 62) ∧ (pure || D.flat (.t [.l ((farR n l f).map (I .i64)), erD (farE n l f)])) = true ∧ evK (σ.put dst (.d (.t [.l ((farR n l f).map (I .i64)), erD (farE n l f)]))) (.mk : Hid K)) (.mk : Hid (CallH Try.prog 24 [I .i64 n, .l (l.map lnD), I .i64 f] pure σ dst (.mk : Hid K))) := CallH.eq (wfrom_spec n l f) pure σ dst K
end Go.Proofs

namespace Go.Proofs
open Go.Aw
set_option linter.unusedSimpArgs false
set_option maxRecDepth 10000
def halfR (n : Int) (l : List (Int × Int)) : List Int := if chk n l = 0 then (if halfOk n.toNat (natL l) = true then halfL n.toNat (natL l) else []) else []
def halfE (n : Int) (l : List (Int × Int)) : Int := if chk n l = 0 then (if halfOk n.toNat (natL l) = true then 0 else 5) else chk n l
def mixF {α : Type} (f g : Nat → α) (n q : Nat) : List α := (List.range n).map fun j => if j < q then f j else g j
theorem mixF_len {α : Type} (f g : Nat → α) (n q : Nat) : (mixF f g n q).length = n := by simp [mixF]
theorem mixF_set {α : Type} (f g : Nat → α) {n q : Nat} (_h : q < n) : (mixF f g n q).set q (f q) = mixF f g n (q + 1) := by
  refine List.ext_getElem (by simp [mixF]) fun i h1 h2 => ?_
  rw [List.getElem_set]
  simp (implicitDefEqProofs := false) (dsimp := false) only [mixF, List.getElem_map, List.getElem_range]
  split
  · rename_i e; subst e; rw [if_pos (by omega)]
  · rename_i e
    by_cases h : i < q
    · rw [if_pos h, if_pos (by omega)]
    · rw [if_neg h, if_neg (by omega)]
theorem mixF_zero {α : Type} (f : Nat → α) (x : α) (n : Nat) : mixF f (fun _ => x) n 0 = List.replicate n x := by
  unfold mixF
  simp [List.map_const']
theorem mixF_all {α : Type} (f g : Nat → α) (n : Nat) : mixF f g n n = (List.range n).map f := by
  unfold mixF
  refine List.map_congr_left fun i hi => ?_
  rw [if_pos (List.mem_range.1 hi)]
theorem far_ok {n : Int} {l : List (Int × Int)} (h : chk n l = 0) {f : Nat} (hf : f < n.toNat) : farR n l (f : Int) = farL n.toNat (natL l) f ∧ farE n l (f : Int) = 0 := by
  have ok := chk_ok h
  have e := ok.n0
  have hb : inB (f : Int) 0 (n - 1) = true := inW_iff.2 ⟨by omega, by omega⟩
  unfold farR farE
  rw [if_pos h, if_pos h, if_pos hb, if_pos hb]
  exact ⟨rfl, rfl⟩
theorem hpart_spec (n : Int) (l : List (Int × Int)) (hpre : l.length < 2 ^ 62) : FnD Try.prog 10 [I .i64 n, .l (l.map lnD)] (.t [.l ((halfR n l).map (I .i64)), erD (halfE n l)]) := by
  refine FnD.go Try.func10 rfl rfl Try.results10 Try.ntmps10 ?_
  simp (implicitDefEqProofs := false) (dsimp := false) only [↓aw_seq, ↓aw_reg, ↓Qseq_n, ↓ops_nil, ↓ops_cons, ↓eval_tmp, ↓eval_nil, ↓eval_func, ↓put_some, ↓op_move, ↓op_assign, ↓op_call, isD_d, ↓fnK_f, ↓call_H, ↓callK_H, ↓allT_nil, ↓allT_cons, ↓td_d, List.getD_cons_zero, List.getD_cons_succ, List.set_cons_zero, List.set_cons_succ, List.cons_append, List.nil_append, List.append_nil, List.map_cons, List.map_nil, List.length_cons, List.length_nil, List.all_cons, List.all_nil, Bool.and_self, Nat.reduceAdd, Nat.reduceSub, Nat.reduceMul, Nat.zero_add, List.replicate, evK_go, reduceIte, Nat.reduceEqDiff, Nat.reduceLT, and_self, Int.zero_add]
  simp (implicitDefEqProofs := false) (dsimp := false) only [gcheck_call, eval_nilI, ↓er_neq, er_flat, ↓cdK_not, ↓aw_cond, ↓aw_seq, ↓aw_reg, ↓Qseq_n, ↓ops_nil, ↓ops_cons, ↓eval_tmp, ↓put_some, ↓bK_b, ↓op_move, ↓op_assign, ↓op_bin, List.getD_cons_zero, List.getD_cons_succ, List.set_cons_zero, List.set_cons_succ, Bool.true_and, Bool.or_true, Nat.reduceAdd, Nat.reduceSub, Nat.reduceMul, evK_go, reduceIte, Nat.reduceEqDiff, Nat.reduceLT, true_and]
  refine OrH.l (OrH.l ⟨hpre, ?_⟩)
  refine cdK_dec (fun hc => ?_) (fun hc => ?_)
  rotate_left
  · simp (implicitDefEqProofs := false) (dsimp := false) only [halfR, halfE, hc, ↓aw_seq, ↓aw_ret, ↓aw_reg, ↓Qseq_n, ↓Qseq_r, ↓Qret_r, ↓ops_nil, ↓ops_cons, ↓eval_tmp, ↓eval_nil, ↓put_some, ↓op_move, ↓op_assign, ↓td_d, ↓td_nl, ↓ret_2, List.getD_cons_zero, List.getD_cons_succ, List.set_cons_zero, List.set_cons_succ, List.map_nil, Nat.reduceAdd, Nat.reduceSub, Nat.reduceMul, evK_go, reduceIte, decide_false, Bool.not_false, Nat.reduceEqDiff, Nat.reduceLT]
  have ok := chk_ok hc
  rw [show halfR n l = (if halfOk n.toNat (natL l) = true then halfL n.toNat (natL l) else []) from if_pos hc, show halfE n l = (if halfOk n.toNat (natL l) = true then 0 else 5) from if_pos hc]
  have hR : rootR n l = (List.range n.toNat).map (rootP n.toNat (natL l)) := if_pos hc
  simp (implicitDefEqProofs := false) (dsimp := false) only [wparts_call, hpre, hc, hR, eval_nilI, ↓er_neq, ↓cdK_false, ↓nthK_H, ↓nthH_zero, ↓nthH_succ, ↓aw_cond, ↓aw_seq, ↓aw_block, ↓aw_skip, ↓aw_loop, ↓aw_reg, ↓Qseq_n, ↓ops_nil, ↓ops_cons, ↓eval_tmp, ↓eval_int, ↓eval_func, ↓put_some, ↓bK_b, ↓iK_i, ↓dK_d, ↓lenK_l, ↓tK_t, ↓op_move, ↓op_assign, ↓op_bin, ↓op_extract, ↓op_len, ↓op_call, ↓op_make, isD_d, ↓fnK_f, ↓call_H, ↓callK_H, ↓allT_nil, ↓allT_cons, ↓td_d, ↓addRow_mk, ↓st_rw, ↓cells_c, ↓one_i, constV_i, ↓mk_, ↓vsz_int, ↓ty3, ↓zb3, ↓sl29, List.getD_cons_zero, List.getD_cons_succ, List.set_cons_zero, List.set_cons_succ, List.nil_append, List.append_nil, List.length_cons, List.length_nil, List.length_map, List.all_cons, List.all_nil, Bool.and_true, Bool.true_and, Bool.and_self, Bool.true_or, Nat.reduceAdd, Nat.reduceSub, Nat.reduceMul, Nat.zero_add, evK_go, reduceIte, decide_true, Bool.not_true, Nat.reduceEqDiff, Nat.reduceLT, and_self, true_and, and_true, Int.zero_add]
  (repeat refine OrH.l ?_)
  have h8 := ok.hi
  have e0 := ok.n0
  have hlo := ok.lo
  have hrng := ok.rng
  have hcr := ok.cr
  have hll := ok.len
  have hfar := fun f hf => far_ok hc (f := f) hf
  have hroot := fun i hi => root_spec hcr.1 hcr.2.2 (i := i) hi
  have hfs := fun f hf => (far_spec hcr.1 hcr.2.2 (f := f) hf)
  refine ⟨⟨by omega, by omega, by decide⟩, ?_⟩
  have hHd : halfL n.toNat (natL l) = (List.range n.toNat).map fun i => (farL n.toNat (natL l) (rootP n.toNat (natL l) i)).getD i default % 2 := rfl
  clear hR ok
  generalize n.toNat = m at *
  obtain ⟨R, hRd⟩ : ∃ R, R = (List.range m).map (rootP m (natL l)) := ⟨_, rfl⟩
  have hRl : R.length = m := by rw [hRd]; simp
  have hRg : ∀ k, k < m → R.getD k default = rootP m (natL l) k := fun k hk => by
    rw [hRd, List.getD_eq_getElem?_getD, List.getElem?_map, List.getElem?_range hk]; rfl
  rw [← hRd]
  clear hRd
  obtain ⟨H, hH⟩ : ∃ H : Nat → Int, H = fun i => (farL m (natL l) (rootP m (natL l) i)).getD i default % 2 := ⟨_, rfl⟩
  have hHk : ∀ k, H k = (farL m (natL l) (rootP m (natL l) k)).getD k default % 2 := fun k => by rw [hH]
  refine loopW (fun k : Nat => { tm := slots 79 [(0, .d (I .i64 n)), (1, .d (.l (l.map lnD))), (9, .o 0 0 m), (33, .d (.l (R.map nD))), (34, .d (I .i64 (m : Int))), (35, .d (I .i64 k))], bx := [], rw := [some ⟨1, (mixF H (fun _ => 0) m k).map (I .i64)⟩] })
    (fun k => k ≤ m) (fun k => m - k) 0 (by simp) ?_ ?_
  · refine Wkn.of [] [some 0] ?_
    simp (implicitDefEqProofs := false) (dsimp := false) only [mixF_zero, List.map_replicate, List.length_range, List.getD_cons_zero, List.set_cons_zero, List.set_cons_succ, Bool.and_self, Nat.reduceAdd, Nat.reduceSub, Nat.reduceMul, List.replicate, evK_go, reduceIte, Nat.reduceEqDiff, Nat.reduceLT, and_self, List.foldl_cons, List.foldl_nil, Int.cast_ofNat_Int, slots, wkL_nil, wkL_cons, wkB_nil, wkR_nil, wkR_some, wkV_j, wkV_d, wkV_o, frz_d, oK_zs, reduceCtorEq]
  · intro k hk
    have hml := mixF_len H (fun _ => 0) m k
    simp (implicitDefEqProofs := false) (dsimp := false) only [slots, ↓aw_cond, ↓aw_seq, ↓aw_reg, ↓Qseq_n, ↓ops_nil, ↓ops_cons, ↓eval_tmp, ↓put_some, ↓bK_b, ↓binE_i, ↓bi_lss, ↓op_bin, List.getD_cons_zero, List.getD_cons_succ, List.set_cons_zero, List.set_cons_succ, Nat.reduceAdd, Nat.reduceSub, Nat.reduceMul, List.replicate, evK_go, reduceIte, Nat.reduceEqDiff, Nat.reduceLT, List.foldl_cons, List.foldl_nil, Int.ofNat_lt]
    refine cdK_dec (fun h => ?_) (fun h => ?_)
    · have hkR : k < R.length := by omega
      obtain ⟨hr1, hr2⟩ := hroot k h
      have hrm : rootP m (natL l) k < m := by omega
      obtain ⟨f1, f2⟩ := hfar _ hrm
      obtain ⟨f3, f4⟩ := hfs _ hrm
      obtain ⟨z, hz, _, hzm⟩ := f4 k hr2
      have hHk := hHk k
      have hms := mixF_set H (fun _ => 0) h
      simp (implicitDefEqProofs := false) (dsimp := false) only [hkR, hRg k h, nD, wfrom_call, hpre, f1, f2, eval_nilI, ↓er_neq, ↓cdK_false, ↓optK_some, ↓rwK_mk_, ↓atK_H, ↓atH_map, ↓nthK_H, ↓nthH_zero, ↓nthH_succ, ↓aw_cond, ↓aw_seq, ↓aw_block, ↓aw_skip, ↓aw_reg, ↓Qseq_n, ↓Qblk_n, ↓ops_nil, ↓ops_cons, ↓eval_tmp, ↓eval_int, ↓eval_func, ↓put_some, ↓put_none, ↓bK_b, ↓iK_i, ↓dK_d, ↓tK_t, ↓binE_i, ↓bi_add, ↓bi_rem, ↓in_i64, ↓ldK_q, ↓iaK_l, ↓iaK_o, ↓op_move, ↓op_assign, ↓op_load, ↓op_bin, ↓op_ia, ↓op_extract, ↓op_call, ↓op_store, isD_d, ↓fnK_f, ↓call_H, ↓callK_H, ↓allT_nil, ↓allT_cons, ↓td_d, ↓setRow_mk, ↓row_sz, ↓row_xs, ↓cells_c, ↓one_i, ↓st_e, ↓hd_cons, ↓ty3, ↓sl29, List.getD_cons_zero, List.getD_cons_succ, List.set_cons_zero, List.set_cons_succ, List.append_nil, List.length_cons, List.length_nil, List.all_cons, List.all_nil, Bool.true_and, Bool.and_self, Bool.true_or, Nat.reduceAdd, Nat.reduceSub, Nat.reduceMul, Nat.zero_add, Int.toNat_natCast, evK_go, reduceIte, decide_true, Bool.not_true, Nat.reduceEqDiff, Nat.reduceLT, and_self, true_and, Int.zero_add, Int.ofNat_lt, Int.natCast_nonneg]
      (repeat refine OrH.l ?_)
      refine ⟨by omega, ⟨by omega, by decide⟩, h, by omega, k + 1, by omega, by omega, ?_⟩
      refine Wkn.of [] [some 0] ?_
      simp (implicitDefEqProofs := false) (dsimp := false) only [← hms, ← hHk, List.map_set, List.getD_cons_zero, List.set_cons_zero, List.set_cons_succ, Bool.and_self, Nat.reduceAdd, Nat.reduceSub, Nat.reduceMul, List.replicate, evK_go, reduceIte, Nat.reduceEqDiff, Nat.reduceLT, and_self, List.foldl_cons, List.foldl_nil, Int.cast_ofNat_Int, Int.natCast_add, slots, wkL_nil, wkL_cons, wkB_nil, wkR_nil, wkR_some, wkV_j, wkV_d, wkV_o, frz_d, oK_zs, reduceCtorEq]
    · obtain rfl : k = m := by omega
      have hG : mixF H (fun _ => 0) k k = halfL k (natL l) := by rw [mixF_all, hHd, hH]
      have hGl : (halfL k (natL l)).length = k := by rw [hHd]; simp
      have hok : halfOk k (natL l) = (natL l).all fun p => !decide ((halfL k (natL l)).getD p.1 default = (halfL k (natL l)).getD p.2 default) := rfl
      have hgood := hcr.2.2
      rw [hG]
      simp (implicitDefEqProofs := false) (dsimp := false) only [↓aw_seq, ↓aw_block, ↓aw_exit, ↓aw_loop, ↓aw_reg, ↓Qseq_n, ↓Qseq_x, ↓Qblk_x, ↓ops_nil, ↓ops_cons, ↓eval_tmp, ↓eval_int, ↓put_some, ↓lenK_l, ↓op_move, ↓op_len, ↓sl22, List.getD_cons_zero, List.getD_cons_succ, List.set_cons_zero, List.set_cons_succ, List.length_map, Nat.reduceAdd, Nat.reduceSub, Nat.reduceMul, evK_go, reduceIte, decide_false, Nat.reduceEqDiff, Nat.reduceLT, Nat.lt_irrefl]
      generalize halfL k (natL l) = G at *
      generalize halfOk k (natL l) = B at *
      refine loopW (fun i : Nat => { tm := slots 79 [(9, .o 0 0 k), (59, .d (.l (l.map lnD))), (60, .d (I .i64 (l.length : Int))), (61, .d (I .i64 i))], bx := [], rw := [some ⟨1, G.map (I .i64)⟩] })
        (fun i => i ≤ l.length ∧ ((natL l).take i).all (fun p => !decide (G.getD p.1 default = G.getD p.2 default)) = true) (fun i => l.length - i) 0 (by simp) ?_ ?_
      · refine Wkn.of [] [some 0] ?_
        simp (implicitDefEqProofs := false) (dsimp := false) only [List.getD_cons_zero, List.set_cons_zero, List.set_cons_succ, Bool.and_self, Nat.reduceAdd, Nat.reduceSub, Nat.reduceMul, List.replicate, evK_go, reduceIte, Nat.reduceEqDiff, Nat.reduceLT, and_self, List.foldl_cons, List.foldl_nil, Int.cast_ofNat_Int, slots, wkL_nil, wkL_cons, wkB_nil, wkR_nil, wkR_some, wkV_j, wkV_d, wkV_o, frz_d, oK_zs, reduceCtorEq]
      · rintro i ⟨hi, hall⟩
        simp (implicitDefEqProofs := false) (dsimp := false) only [slots, ↓aw_cond, ↓aw_seq, ↓aw_reg, ↓Qseq_n, ↓ops_nil, ↓ops_cons, ↓eval_tmp, ↓put_some, ↓bK_b, ↓binE_i, ↓bi_lss, ↓op_bin, List.getD_cons_zero, List.getD_cons_succ, List.set_cons_zero, List.set_cons_succ, Nat.reduceAdd, Nat.reduceSub, Nat.reduceMul, List.replicate, evK_go, reduceIte, Nat.reduceEqDiff, Nat.reduceLT, List.foldl_cons, List.foldl_nil, Int.ofNat_lt]
        refine cdK_dec (fun h1 => ?_) (fun h1 => ?_)
        · have hmemi : l.getD i default ∈ l := getD_mem h1
          have hnl : i < (natL l).length := by rw [natL_len]; exact h1
          have hni : (natL l).getD i default = ((l.getD i default).1.toNat, (l.getD i default).2.toNat) := by
            unfold natL
            rw [List.getD_eq_getElem?_getD, List.getElem?_map, List.getD_eq_getElem?_getD, List.getElem?_eq_getElem h1]; rfl
          have hgi := hgood _ (hni ▸ getD_mem hnl)
          have hri := hrng _ hmemi
          have hts := take_succ_getD hnl
          rw [hni] at hts
          simp only at hgi
          simp (implicitDefEqProofs := false) (dsimp := false) only [h1, lnD, ↓optK_some, ↓rwK_mk_, ↓atK_H, ↓atH_map, ↓nthK_H, ↓nthH_zero, ↓nthH_succ, ↓aw_cond, ↓aw_seq, ↓aw_block, ↓aw_skip, ↓aw_reg, ↓aw_draw, ↓Qseq_n, ↓ops_nil, ↓ops_cons, ↓eval_tmp, ↓put_some, ↓put_none, ↓bK_b, ↓iK_i, ↓ev_move, ↓ev_load, ↓ev_bin, ↓ev_fa, ↓ev_ia, ↓binE_i, ↓bi_eql, ↓ldK_q, ↓ldK_p, ↓ldK_e, ↓faK_p, ↓iaK_l, ↓iaK_o, ↓op_load, ↓op_ia, ↓op_alloc, ↓op_store, ↓draw_H, ↓h_nil, ↓h_cons, ↓ldH_n, ↓q_move, ↓q_load, ↓q_bin, ↓q_fa, ↓q_ia, ↓il_move, ↓il_load, ↓il_bin, ↓il_fa, ↓il_ia, ↓addBox_mk, ↓setBox_mk, ↓st_bx, ↓row_sz, ↓row_xs, ↓cells_c, ↓cells_s, ↓vcells_s, ↓one_i, ↓vone_d, constV_a, ↓st_p, ↓ty3, ↓sl22, ↓ty28, ↓zb28, ↓fd28_0, ↓fd28_1, ↓sl29, List.getD_cons_zero, List.getD_cons_succ, List.set_cons_zero, List.set_cons_succ, List.nil_append, List.map_cons, List.map_nil, List.length_cons, List.length_nil, List.all_cons, List.all_nil, Bool.true_and, Bool.and_self, Nat.reduceAdd, Nat.reduceSub, Nat.reduceMul, Nat.zero_add, Nat.add_zero, Int.toNat_natCast, evK_go, reduceIte, decide_true, Nat.reduceEqDiff, Nat.reduceLT, and_self, true_and, Int.zero_add, List.take_succ_cons, List.take_nil, Int.natCast_nonneg]
          refine ⟨by decide, OrH.l ⟨DrawH.of follows_mixed (by kernel_rfl), ⟨hri.1, by omega⟩, by omega, ⟨hri.2, by omega⟩, by omega, cdK_dec (fun h2 => ?_) (fun h2 => ?_)⟩⟩
          · have hB : B = false := by
              rw [hok, ← Bool.not_eq_true]
              intro hq
              have h3 := List.all_eq_true.1 hq _ (getD_mem hnl)
              rw [hni] at h3
              have h3 : (!decide (G.getD (l.getD i default).1.toNat default = G.getD (l.getD i default).2.toNat default)) = true := h3
              rw [decide_eq_true h2] at h3
              cases h3
            rw [hB]
            simp (implicitDefEqProofs := false) (dsimp := false) only [nc43, ↓aw_seq, ↓aw_ret, ↓aw_reg, ↓Qseq_n, ↓Qseq_r, ↓Qblk_r, ↓Qret_r, ↓ops_nil, ↓ops_cons, ↓eval_tmp, ↓eval_int, ↓eval_nil, ↓put_some, ↓vK_c, ↓op_assign, ↓op_iface, ↓td_d, ↓td_nl, ↓ret_2, ↓nc43, List.getD_cons_zero, List.getD_cons_succ, List.set_cons_zero, List.set_cons_succ, Bool.true_and, Nat.reduceAdd, Nat.reduceSub, Nat.reduceMul, evK_go, reduceIte, Nat.reduceEqDiff, Nat.reduceLT, true_and]
            rfl
          · simp (implicitDefEqProofs := false) (dsimp := false) only [↓aw_skip, ↓aw_reg, ↓Qseq_n, ↓Qblk_n, ↓ops_nil, ↓ops_cons, ↓eval_tmp, ↓eval_int, ↓put_some, ↓binE_i, ↓bi_add, ↓in_i64, ↓op_move, ↓op_bin, List.getD_cons_zero, List.getD_cons_succ, List.set_cons_zero, List.set_cons_succ, Nat.reduceAdd, Nat.reduceSub, Nat.reduceMul, evK_go, reduceIte, Nat.reduceEqDiff, Nat.reduceLT]
            refine ⟨by omega, i + 1, ⟨by omega, ?_⟩, by omega, ?_⟩
            · rw [hts, List.all_append, hall, List.all_cons, List.all_nil, Bool.and_true, Bool.true_and]
              show (!decide (G.getD (l.getD i default).1.toNat default = G.getD (l.getD i default).2.toNat default)) = true
              rw [decide_eq_false h2]; rfl
            · refine Wkn.of [] [some 0] ?_
              simp (implicitDefEqProofs := false) (dsimp := false) only [List.getD_cons_zero, List.set_cons_zero, List.set_cons_succ, Bool.and_self, Nat.reduceAdd, Nat.reduceSub, Nat.reduceMul, List.replicate, evK_go, reduceIte, Nat.reduceEqDiff, Nat.reduceLT, and_self, List.foldl_cons, List.foldl_nil, Int.cast_ofNat_Int, Int.natCast_add, slots, wkL_nil, wkL_cons, wkB_nil, wkR_nil, wkR_some, wkV_j, wkV_d, wkV_o, frz_d, oK_zs, reduceCtorEq]
        · obtain rfl : i = l.length := by omega
          have hB : B = true := by
            rw [hok, ← hall]
            congr 1
            exact (List.take_of_length_le (by rw [natL_len]; exact Nat.le_refl _)).symm
          have e2 : List.take k (List.map (I .i64) G) = List.map (I .i64) G := List.take_of_length_le (by simp; omega)
          rw [hB]
          simp (implicitDefEqProofs := false) (dsimp := false) only [e2, eval_nilI, ↓optK_some, ↓rwK_mk_, ↓aw_seq, ↓aw_exit, ↓aw_ret, ↓aw_reg, ↓Qseq_n, ↓Qseq_x, ↓Qblk_x, ↓Qret_r, ↓ops_nil, ↓ops_cons, ↓eval_tmp, ↓put_some, ↓op_move, ↓op_assign, ↓td_d, ↓td_o, ↓ret_2, ↓row_xs, List.getD_cons_zero, List.getD_cons_succ, List.set_cons_zero, List.set_cons_succ, Nat.reduceAdd, Nat.reduceSub, Nat.reduceMul, evK_go, reduceIte, decide_false, Nat.reduceEqDiff, Nat.reduceLT, Nat.lt_irrefl, List.drop_zero]
          rfl
theorem hpart_call (n : Int) (l : List (Int × Int)) (pure : Bool) (σ : St) (dst : Option Tmp) (K : St → Prop) : CallH Try.prog 10 [I .i64 n, .l (l.map lnD)] pure σ dst (.mk : Hid K) = OrH ((l.length < 2 ^ 62) ∧ (pure || D.flat (.t [.l ((halfR n l).map (I .i64)), erD (halfE n l)])) = true ∧ evK (σ.put dst (.d (.t [.l ((halfR n l).map (I .i64)), erD (halfE n l)]))) (.mk : Hid K)) (.mk : Hid (CallH Try.prog 10 [I .i64 n, .l (l.map lnD)] pure σ dst (.mk : Hid K))) := CallH.eq (hpart_spec n l) pure σ dst K
end Go.Proofs

namespace Go.Proofs
open Go.Aw
set_option linter.unusedSimpArgs false
set_option maxRecDepth 10000
def oddR (n : Int) (l : List (Int × Int)) : Nat := if chk n l = 0 then oddN n.toNat (outS n.toNat (symL (natL l))) else 0
def odK (S : List Nat) (a b : Nat) : Nat → Nat
  | 0 => b
  | k + 1 => oddK S a (odK S a b k) (k + 1)
def odA (S : List Nat) (n : Nat) : Nat → Nat
  | 0 => 0
  | a + 1 => odK S a (odA S n a) n
theorem odK_eq (S : List Nat) (a b k : Nat) : odK S a b k = (List.range k).foldl (fun b k => oddK S a b (k + 1)) b := by
  induction k with
  | zero => rfl
  | succ k ih => rw [List.range_succ, List.foldl_append, ← ih]; rfl
theorem odA_eq (S : List Nat) (n a : Nat) : odA S n a = (List.range a).foldl (oddA S n) 0 := by
  induction a with
  | zero => rfl
  | succ a ih =>
    rw [List.range_succ, List.foldl_append, ← ih]
    show odK S a _ n = oddA S n _ a
    rw [odK_eq]; rfl
theorem odK_le (S : List Nat) (a b m : Nat) (hb : b ≤ m) : ∀ k, k ≤ m → odK S a b k ≤ m := by
  intro k
  induction k with
  | zero => intro _; exact hb
  | succ k ih =>
    intro h
    have := ih (by omega)
    show oddK S a (odK S a b k) (k + 1) ≤ m
    unfold oddK
    split <;> omega
theorem odA_le (S : List Nat) (m : Nat) : ∀ a, odA S m a ≤ m := by
  intro a
  induction a with
  | zero => exact Nat.zero_le _
  | succ a ih => exact odK_le S a _ m ih m (Nat.le_refl _)
theorem hodd_spec (n : Int) (l : List (Int × Int)) (hpre : l.length < 2 ^ 62) : FnD Try.prog 11 [I .i64 n, .l (l.map lnD)] (.t [I .i64 (oddR n l : Nat), erD (chk n l)]) := by
  refine FnD.go Try.func11 rfl rfl Try.results11 Try.ntmps11 ?_
  simp (implicitDefEqProofs := false) (dsimp := false) only [↓aw_seq, ↓aw_reg, ↓Qseq_n, ↓ops_nil, ↓ops_cons, ↓eval_tmp, ↓eval_int, ↓eval_func, ↓put_some, ↓op_move, ↓op_assign, ↓op_call, isD_d, ↓fnK_f, ↓call_H, ↓callK_H, ↓allT_nil, ↓allT_cons, ↓td_d, List.getD_cons_zero, List.getD_cons_succ, List.set_cons_zero, List.set_cons_succ, List.cons_append, List.nil_append, List.append_nil, List.map_cons, List.map_nil, List.length_cons, List.length_nil, List.all_cons, List.all_nil, Bool.and_self, Nat.reduceAdd, Nat.reduceSub, Nat.reduceMul, Nat.zero_add, List.replicate, evK_go, reduceIte, Nat.reduceEqDiff, Nat.reduceLT, and_self, Int.zero_add]
  simp (implicitDefEqProofs := false) (dsimp := false) only [gcheck_call, eval_nilI, ↓er_neq, er_flat, ↓cdK_not, ↓aw_cond, ↓aw_seq, ↓aw_reg, ↓Qseq_n, ↓ops_nil, ↓ops_cons, ↓eval_tmp, ↓put_some, ↓bK_b, ↓op_move, ↓op_assign, ↓op_bin, List.getD_cons_zero, List.getD_cons_succ, List.set_cons_zero, List.set_cons_succ, Bool.true_and, Bool.or_true, Nat.reduceAdd, Nat.reduceSub, Nat.reduceMul, evK_go, reduceIte, Nat.reduceEqDiff, Nat.reduceLT, true_and]
  refine OrH.l (OrH.l ⟨hpre, ?_⟩)
  refine cdK_dec (fun hc => ?_) (fun hc => ?_)
  rotate_left
  · have e1 : oddR n l = 0 := if_neg hc
    simp (implicitDefEqProofs := false) (dsimp := false) only [e1, ↓aw_seq, ↓aw_ret, ↓aw_reg, ↓Qseq_n, ↓Qseq_r, ↓Qret_r, ↓ops_nil, ↓ops_cons, ↓eval_tmp, ↓eval_int, ↓put_some, ↓op_move, ↓op_assign, ↓td_d, ↓ret_2, List.getD_cons_zero, List.getD_cons_succ, List.set_cons_zero, List.set_cons_succ, Nat.reduceAdd, Nat.reduceSub, Nat.reduceMul, evK_go, reduceIte, Nat.reduceEqDiff, Nat.reduceLT, Int.cast_ofNat_Int]
  have ok := chk_ok hc
  rw [show oddR n l = oddN n.toNat (outS n.toNat (symL (natL l))) from if_pos hc, lnD_nat ok.rng, hc]
  have hcr := ok.cr
  have h8 := ok.hi
  have e0 := ok.n0
  clear ok hc hpre
  generalize n.toNat = m at *
  subst e0
  generalize natL l = L at *
  have hsg := symL_good hcr.2.2
  have hSl := outS_len m (symL L)
  have hSt := outS_lt' (n := m) (by omega) hsg
  have hSb : ∀ a, a < m → ∀ k j, (nowS (outS m (symL L)) a k).testBit j = true → j < m := fun a ha k j h => by
    have h := (nowS_bit (n := m) (by omega) hsg ha k j).1 h
    exact h.path.lt hsg ha
  simp (implicitDefEqProofs := false) (dsimp := false) only [beside_callD, hcr, ↓aw_seq, ↓aw_block, ↓aw_skip, ↓aw_loop, ↓aw_reg, ↓Qseq_n, ↓ops_nil, ↓ops_cons, ↓eval_tmp, ↓eval_int, ↓eval_func, ↓put_some, ↓put_none, ↓op_move, ↓op_assign, ↓op_call, ↓op_alloc, ↓op_store, isD_d, ↓fnK_f, ↓call_H, ↓callK_H, ↓allT_nil, ↓allT_cons, ↓td_d, ↓addBox_mk, ↓setBox_mk, ↓st_bx, ↓vcells_l, ↓vcells_nl, ↓one_l, ↓vone_d, constV_n, ↓st_p, ↓ty45, ↓zb45, List.getD_cons_zero, List.getD_cons_succ, List.set_cons_zero, List.set_cons_succ, List.nil_append, List.append_nil, List.length_cons, List.length_nil, List.all_cons, List.all_nil, Bool.true_and, Bool.and_self, Bool.true_or, Nat.reduceAdd, Nat.reduceSub, Nat.reduceMul, Nat.zero_add, evK_go, reduceIte, decide_true, Bool.not_true, Nat.reduceEqDiff, Nat.reduceLT, and_self, true_and, Int.zero_add]
  (repeat refine OrH.l ?_)
  generalize outS m (symL L) = S at *
  have hodn : oddN m S = odA S m m := (odA_eq S m m).symm
  refine loopW (fun a : Nat => { tm := slots 64 [(0, .d (I .i64 (m : Int))), (7, .p 0 0), (8, .d (I .i64 (odA S m a : Nat))), (23, .d (I .i64 (m : Int))), (24, .d (I .i64 a))], bx := [.d (.l (S.map U))], rw := [] })
    (fun a => a ≤ m) (fun a => m - a) 0 (by simp) ?_ ?_
  · refine Wkn.of [0] [] ?_
    simp (implicitDefEqProofs := false) (dsimp := false) only [odA, ↓vcells_l, List.getD_cons_zero, List.set_cons_zero, List.set_cons_succ, List.length_cons, List.length_nil, Bool.and_self, Nat.reduceAdd, Nat.reduceSub, Nat.reduceMul, Nat.zero_add, List.replicate, evK_go, reduceIte, Nat.reduceEqDiff, Nat.reduceLT, and_self, Int.zero_add, List.foldl_cons, List.foldl_nil, Int.cast_ofNat_Int, slots, wkL_nil, wkL_cons, wkB_nil, wkB_cons, wkR_nil, wkV_j, wkV_d, wkV_p, frz_d, pK_z, reduceCtorEq]
  · intro a ha
    have hba := odA_le S m a
    simp (implicitDefEqProofs := false) (dsimp := false) only [slots, ↓aw_cond, ↓aw_seq, ↓aw_reg, ↓Qseq_n, ↓ops_nil, ↓ops_cons, ↓eval_tmp, ↓put_some, ↓bK_b, ↓binE_i, ↓bi_lss, ↓op_bin, List.getD_cons_zero, List.getD_cons_succ, List.set_cons_zero, List.set_cons_succ, Nat.reduceAdd, Nat.reduceSub, Nat.reduceMul, List.replicate, evK_go, reduceIte, Nat.reduceEqDiff, Nat.reduceLT, List.foldl_cons, List.foldl_nil, Int.ofNat_lt]
    refine cdK_dec (fun h => ?_) (fun h => ?_)
    · have ha64 : a < 64 := by omega
      simp (implicitDefEqProofs := false) (dsimp := false) only [h, ha64, with0_call, ↓aw_seq, ↓aw_block, ↓aw_skip, ↓aw_loop, ↓aw_reg, ↓Qseq_n, ↓ops_nil, ↓ops_cons, ↓eval_tmp, ↓eval_int, ↓eval_func, ↓put_some, ↓op_move, ↓op_assign, ↓op_call, isD_d, ↓fnK_f, ↓call_H, ↓callK_H, ↓allT_nil, ↓allT_cons, ↓td_d, List.getD_cons_zero, List.getD_cons_succ, List.set_cons_zero, List.set_cons_succ, List.append_nil, List.all_cons, List.all_nil, Bool.true_and, Bool.and_self, Bool.true_or, Nat.reduceAdd, Nat.reduceSub, Nat.reduceMul, evK_go, reduceIte, decide_true, Nat.reduceEqDiff, Nat.reduceLT, and_self, true_and]
      (repeat refine OrH.l ?_)
      refine loopW (fun k : Nat => { tm := slots 64 [(0, .d (I .i64 (m : Int))), (7, .p 0 0), (8, .d (I .i64 (odK S a (odA S m a) k : Nat))), (9, .d (I .i64 a)), (10, .d (U (nowS S a k))), (11, .d (I .i64 (k + 1 : Nat))), (23, .d (I .i64 (m : Int))), (24, .d (I .i64 a))], bx := [.d (.l (S.map U))], rw := [] })
        (fun k => k ≤ m) (fun k => m - k) 0 (by simp) ?_ ?_
      · refine Wkn.of [0] [] ?_
        simp (implicitDefEqProofs := false) (dsimp := false) only [odK, nowS, ↓vcells_l, List.getD_cons_zero, List.set_cons_zero, List.set_cons_succ, List.length_cons, List.length_nil, Bool.and_self, Nat.reduceAdd, Nat.reduceSub, Nat.reduceMul, Nat.zero_add, List.replicate, evK_go, reduceIte, Nat.reduceEqDiff, Nat.reduceLT, and_self, Int.zero_add, List.foldl_cons, List.foldl_nil, Int.cast_ofNat_Int, slots, wkL_nil, wkL_cons, wkB_nil, wkB_cons, wkR_nil, wkV_j, wkV_d, wkV_p, frz_d, pK_z, reduceCtorEq]
      · intro k hk
        have hbk := odK_le S a _ m hba k hk
        have hn64 := nowS_lt hSt ha64 k
        simp (implicitDefEqProofs := false) (dsimp := false) only [slots, ↓aw_cond, ↓aw_seq, ↓aw_reg, ↓Qseq_n, ↓ops_nil, ↓ops_cons, ↓eval_tmp, ↓put_some, ↓bK_b, ↓binE_i, ↓bi_leq, ↓op_move, ↓op_bin, List.getD_cons_zero, List.getD_cons_succ, List.set_cons_zero, List.set_cons_succ, Nat.reduceAdd, Nat.reduceSub, Nat.reduceMul, List.replicate, evK_go, reduceIte, Nat.reduceEqDiff, Nat.reduceLT, List.foldl_cons, List.foldl_nil, Int.cast_ofNat_Int, Int.natCast_add]
        refine cdK_dec (fun h1 => ?_) (fun h1 => ?_)
        · simp (implicitDefEqProofs := false) (dsimp := false) only [each_call, ↓aw_seq, ↓aw_block, ↓aw_skip, ↓aw_rng, ↓aw_reg, ↓Qseq_n, ↓ops_nil, ↓ops_cons, ↓eval_tmp, ↓eval_int, ↓eval_func, ↓put_some, ↓put_none, ↓op_move, ↓op_call, ↓op_alloc, ↓op_store, isD_d, ↓fnK_f, ↓call_H, ↓callK_H, ↓allT_nil, ↓allT_cons, ↓td_d, ↓addBox_mk, ↓setBox_mk, ↓st_bx, ↓vcells_c, ↓one_i, ↓vone_d, constV_i, ↓st_p, ↓ty49, ↓zb49, List.getD_cons_zero, List.getD_cons_succ, List.set_cons_zero, List.set_cons_succ, List.cons_append, List.nil_append, List.append_nil, List.length_cons, List.length_nil, List.all_cons, List.all_nil, Bool.true_and, Bool.and_self, Bool.true_or, Nat.reduceAdd, Nat.reduceSub, Nat.reduceMul, Nat.zero_add, evK_go, reduceIte, Nat.reduceEqDiff, Nat.reduceLT, and_self, true_and, Int.zero_add]
          (repeat refine OrH.l ?_)
          refine rangeW (slots 64 [(0, .d (I .i64 (m : Int))), (7, .p 0 0), (8, .d (I .i64 (odK S a (odA S m a) k : Nat))), (9, .d (I .i64 a)), (11, .d (I .i64 (k + 1 : Nat))), (12, .p 1 0), (23, .d (I .i64 (m : Int))), (24, .d (I .i64 a)), (35, .d (.f (.func 40) [.q [U (nowS S a k)]]))])
            (fun P : List Nat => [.d (.l (S.map U)), .d (U (orL S P))]) (fun _ => []) (fun ys P => ys = P.map Int.ofNat) []
            (by simp [slots]) (each_iter _ hn64) ?_ rfl ?_ ?_ ?_
          · simp (implicitDefEqProofs := false) (dsimp := false) only [slots, ↓eval_tmp, List.getD_cons_zero, List.getD_cons_succ, List.set_cons_zero, List.set_cons_succ, Nat.reduceAdd, Nat.reduceSub, Nat.reduceMul, List.replicate, evK_go, reduceIte, Nat.reduceEqDiff, Nat.reduceLT, List.foldl_cons, List.foldl_nil, Int.cast_ofNat_Int, Int.natCast_add]
          · refine Wkn.of [0, 1] [] ?_
            simp (implicitDefEqProofs := false) (dsimp := false) only [orL, List.foldl_nil, ↓vcells_c, ↓vcells_l, List.getD_cons_zero, List.getD_cons_succ, List.set_cons_zero, List.set_cons_succ, List.length_cons, List.length_nil, Bool.and_self, Nat.reduceAdd, Nat.reduceSub, Nat.reduceMul, Nat.zero_add, List.replicate, evK_go, reduceIte, Nat.reduceEqDiff, Nat.reduceLT, and_self, Int.zero_add, List.foldl_cons, List.foldl_nil, Int.cast_ofNat_Int, Int.natCast_add, slots, wkL_nil, wkL_cons, wkB_nil, wkB_cons, wkR_nil, wkV_j, wkV_d, wkV_p, frz_d, pK_z, pK_s, dc_eq, reduceCtorEq]
          · rintro ys x P hpx rfl
            obtain ⟨P', c, hP, rfl, hcc⟩ := prefix_map hpx
            obtain rfl : P = P' := ofNat_inj hP
            have hcm := (pts_mem _ _).1 (hcc.subset (by simp : c ∈ P ++ [c]))
            have hcl : c < S.length := by rw [hSl]; exact hSb a h k c hcm.2
            have hct := hSt _ (getD_mem hcl)
            have hor := orL_lt hSt P
            simp (implicitDefEqProofs := false) (dsimp := false) only [slots, hcl, hct, hor, ↓atK_H, ↓atH_map, ↓nthK_H, ↓nthH_zero, ↓aw_block, ↓aw_reg, ↓aw_draw, ↓Qblk_n, ↓ops_nil, ↓ops_cons, ↓eval_tmp, ↓put_some, ↓put_none, ↓iK_i, ↓ev_move, ↓ev_load, ↓ev_bin, ↓ev_ia, ↓binE_i, ↓bi_or, ↓ldK_q, ↓ldK_p, ↓iaK_l, ↓op_assign, ↓op_store, ↓draw_H, ↓h_cons, ↓ldH_t, ↓ldH_n, ↓q_move, ↓q_load, ↓q_bin, ↓q_ia, ↓il_move, ↓il_load, ↓il_bin, ↓il_ia, ↓il_store, ↓setBox_mk, ↓st_bx, ↓cells_c, ↓vcells_c, ↓vcells_l, ↓one_i, ↓vone_d, ↓st_p, ↓hd_cons, ↓Qn_n, ↓Qrd_n, ↓back_mk, ↓ty45, ↓sl45, ↓ty49, List.getD_cons_zero, List.getD_cons_succ, List.set_cons_zero, List.set_cons_succ, List.length_cons, List.length_nil, List.all_cons, List.all_nil, Bool.true_and, Bool.and_self, Nat.reduceAdd, Nat.reduceSub, Nat.reduceMul, Nat.zero_add, Int.toNat_natCast, List.replicate, evK_go, reduceIte, Nat.reduceEqDiff, Nat.reduceLT, and_self, true_and, Int.zero_add, List.foldl_cons, List.foldl_nil, Int.cast_ofNat_Int, Int.natCast_add, Int.natCast_nonneg]
            refine OrH.l ⟨DrawH.of follows_mixed (by kernel_rfl), ?_⟩
            refine ⟨P ++ [c], by simp, ?_⟩
            refine Wkn.of [0, 1] [] ?_
            simp (implicitDefEqProofs := false) (dsimp := false) only [orL_snoc, ↓vcells_c, ↓vcells_l, List.getD_cons_zero, List.getD_cons_succ, List.length_cons, List.length_nil, Bool.and_self, Nat.reduceAdd, Nat.reduceSub, Nat.reduceMul, Nat.zero_add, evK_go, reduceIte, Nat.reduceEqDiff, Nat.reduceLT, and_self, Int.zero_add, slots, wkL_nil, wkL_cons, wkB_nil, wkB_cons, wkR_nil, wkV_j, wkV_d, wkV_p, frz_d, pK_z, pK_s, reduceCtorEq]
          · rintro P hP
            obtain rfl : pts (nowS S a k) = P := ofNat_inj hP
            have hns : orL S (pts (nowS S a k)) = nowS S a (k + 1) := rfl
            have hn1 := nowS_lt hSt ha64 (k + 1)
            have hodd : odK S a (odA S m a) (k + 1) = oddK S a (odK S a (odA S m a) k) (k + 1) := rfl
            unfold oddK at hodd
            generalize odA S m a = B0 at *
            generalize odK S a B0 k = B at *
            have ha65 : a ≤ 64 := by omega
            simp (implicitDefEqProofs := false) (dsimp := false) only [slots, hns, ↓gdK_t, ↓gval_mk, ↓gvL_zero, ↓gvL_succ, ↓nthK_H, ↓nthH_zero, ↓aw_seq, ↓aw_reg, ↓Qseq_n, ↓Qblk_n, ↓ops_nil, ↓ops_cons, ↓ops_guard, ↓eval_tmp, ↓eval_int, ↓put_some, ↓binE_i, ↓bi_rem, ↓bi_eql, ↓ldK_p, ↓op_move, ↓op_assign, ↓op_load, ↓op_bin, ↓st_tm, ↓vcells_c, ↓ty49, List.getD_cons_zero, List.getD_cons_succ, List.set_cons_zero, List.set_cons_succ, Nat.reduceAdd, Nat.reduceSub, Nat.reduceMul, List.replicate, evK_go, reduceIte, Nat.reduceEqDiff, Nat.reduceLT, List.foldl_cons, List.foldl_nil, Int.cast_ofNat_Int, Int.natCast_add]
            refine ⟨⟨by omega, by decide⟩, cdK_dec (fun c1 => ?_) (fun c1 => ?_)⟩
            · have hU : D.c (Value.int IntKind.u64 ((nowS S a (k + 1) : Nat) : Int)) = U (nowS S a (k + 1)) := rfl
              cases hb : (nowS S a (k + 1)).testBit a with
              | false =>
                rw [hb, if_neg (fun e => by cases e.2.1)] at hodd
                simp (implicitDefEqProofs := false) (dsimp := false) only [decide_eq_true c1, hU, hasS_call, hn1, ha65, hb, ↓cdK_true, ↓cdK_false, ↓gdK_junk, ↓gdK_t, ↓gval_mk, ↓gvL_zero, ↓gvL_succ, ↓aw_cond, ↓aw_skip, ↓aw_reg, ↓Qseq_n, ↓Qblk_n, ↓ops_nil, ↓ops_cons, ↓ops_guard, ↓eval_tmp, ↓eval_int, ↓eval_bool, ↓eval_func, ↓put_some, ↓bK_b, ↓binE_i, ↓bi_add, ↓in_i64, ↓op_move, ↓op_assign, ↓op_pick, ↓op_bin, ↓op_call, isD_d, ↓fnK_f, ↓call_H, ↓callK_H, ↓allT_nil, ↓allT_cons, ↓td_d, ↓st_tm, List.getD_cons_zero, List.getD_cons_succ, List.set_cons_zero, List.set_cons_succ, List.append_nil, List.all_cons, List.all_nil, Bool.true_and, Bool.and_self, Bool.true_or, Nat.reduceAdd, Nat.reduceSub, Nat.reduceMul, evK_go, reduceIte, Nat.reduceEqDiff, Nat.reduceLT, and_self, true_and, Int.cast_ofNat_Int, Int.natCast_add]
                (repeat refine OrH.l ?_)
                refine ⟨by omega, k + 1, by omega, by omega, ?_⟩
                refine Wkn.of [0] [] ?_
                simp (implicitDefEqProofs := false) (dsimp := false) only [hodd, ↓vcells_l, List.getD_cons_zero, List.set_cons_zero, List.set_cons_succ, List.length_cons, List.length_nil, Bool.and_self, Nat.reduceAdd, Nat.reduceSub, Nat.reduceMul, Nat.zero_add, List.replicate, evK_go, reduceIte, Nat.reduceEqDiff, Nat.reduceLT, and_self, Int.zero_add, List.foldl_cons, List.foldl_nil, Int.cast_ofNat_Int, Int.natCast_add, slots, wkL_nil, wkL_cons, wkB_nil, wkB_cons, wkR_nil, wkV_j, wkV_d, wkV_p, frz_d, pK_z, reduceCtorEq]
              | true =>
                rw [hb] at hodd
                simp (implicitDefEqProofs := false) (dsimp := false) only [decide_eq_true c1, hU, hasS_call, hn1, ha65, hb, ↓cdK_true, ↓gdK_t, ↓gdK_f, ↓gval_mk, ↓gvL_zero, ↓gvL_succ, ↓ops_cons, ↓ops_guard, ↓eval_tmp, ↓eval_int, ↓eval_func, ↓put_some, ↓bK_b, ↓binE_i, ↓bi_eql, ↓op_move, ↓op_pick, ↓op_bin, ↓op_call, isD_d, ↓fnK_f, ↓call_H, ↓callK_H, ↓allT_nil, ↓allT_cons, ↓td_d, ↓st_tm, List.getD_cons_zero, List.getD_cons_succ, List.set_cons_zero, List.set_cons_succ, List.append_nil, List.all_cons, List.all_nil, Bool.true_and, Bool.and_self, Bool.true_or, Nat.reduceAdd, Nat.reduceSub, Nat.reduceMul, evK_go, reduceIte, Nat.reduceEqDiff, Nat.reduceLT, and_self, true_and]
                (repeat refine OrH.l ?_)
                refine cdK_dec (fun c2 => ?_) (fun c2 => ?_)
                · rw [if_pos ⟨by omega, rfl, .inl (by omega)⟩] at hodd
                  simp (implicitDefEqProofs := false) (dsimp := false) only [decide_eq_true c2, ↓cdK_true, ↓gdK_t, ↓gdK_f, ↓gval_mk, ↓gvL_zero, ↓gvL_succ, ↓aw_cond, ↓aw_reg, ↓Qseq_n, ↓Qblk_n, ↓ops_nil, ↓ops_cons, ↓ops_guard, ↓eval_tmp, ↓eval_int, ↓eval_bool, ↓put_some, ↓bK_b, ↓binE_i, ↓bi_add, ↓in_i64, ↓op_move, ↓op_assign, ↓op_pick, ↓op_bin, ↓st_tm, List.getD_cons_zero, List.getD_cons_succ, List.set_cons_zero, List.set_cons_succ, Nat.reduceAdd, Nat.reduceSub, Nat.reduceMul, evK_go, reduceIte, Nat.reduceEqDiff, Nat.reduceLT, Int.cast_ofNat_Int, Int.natCast_add]
                  refine ⟨by omega, k + 1, by omega, by omega, ?_⟩
                  refine Wkn.of [0] [] ?_
                  simp (implicitDefEqProofs := false) (dsimp := false) only [hodd, ↓vcells_l, List.getD_cons_zero, List.set_cons_zero, List.set_cons_succ, List.length_cons, List.length_nil, Bool.and_self, Nat.reduceAdd, Nat.reduceSub, Nat.reduceMul, Nat.zero_add, List.replicate, evK_go, reduceIte, Nat.reduceEqDiff, Nat.reduceLT, and_self, Int.zero_add, List.foldl_cons, List.foldl_nil, Int.cast_ofNat_Int, Int.natCast_add, slots, wkL_nil, wkL_cons, wkB_nil, wkB_cons, wkR_nil, wkV_j, wkV_d, wkV_p, frz_d, pK_z, reduceCtorEq]
                · simp (implicitDefEqProofs := false) (dsimp := false) only [decide_eq_false c2, ↓cdK_true, ↓cdK_false, ↓gdK_t, ↓gdK_f, ↓gval_mk, ↓gvL_zero, ↓gvL_succ, ↓aw_cond, ↓Qseq_n, ↓ops_nil, ↓ops_cons, ↓ops_guard, ↓eval_tmp, ↓put_some, ↓bK_b, ↓binE_i, ↓bi_lss, ↓op_move, ↓op_pick, ↓op_bin, ↓st_tm, List.getD_cons_zero, List.getD_cons_succ, List.set_cons_zero, List.set_cons_succ, Nat.reduceAdd, Nat.reduceSub, Nat.reduceMul, evK_go, reduceIte, Nat.reduceEqDiff, Nat.reduceLT]
                  refine cdK_dec (fun c3 => ?_) (fun c3 => ?_)
                  · rw [if_pos ⟨by omega, rfl, .inr (by omega)⟩] at hodd
                    simp (implicitDefEqProofs := false) (dsimp := false) only [decide_eq_true c3, ↓aw_reg, ↓Qseq_n, ↓Qblk_n, ↓ops_nil, ↓ops_cons, ↓eval_tmp, ↓eval_int, ↓put_some, ↓binE_i, ↓bi_add, ↓in_i64, ↓op_move, ↓op_assign, ↓op_bin, List.getD_cons_zero, List.getD_cons_succ, List.set_cons_zero, List.set_cons_succ, Nat.reduceAdd, Nat.reduceSub, Nat.reduceMul, evK_go, reduceIte, Nat.reduceEqDiff, Nat.reduceLT, Int.cast_ofNat_Int, Int.natCast_add]
                    refine ⟨by omega, k + 1, by omega, by omega, ?_⟩
                    refine Wkn.of [0] [] ?_
                    simp (implicitDefEqProofs := false) (dsimp := false) only [hodd, ↓vcells_l, List.getD_cons_zero, List.set_cons_zero, List.set_cons_succ, List.length_cons, List.length_nil, Bool.and_self, Nat.reduceAdd, Nat.reduceSub, Nat.reduceMul, Nat.zero_add, List.replicate, evK_go, reduceIte, Nat.reduceEqDiff, Nat.reduceLT, and_self, Int.zero_add, List.foldl_cons, List.foldl_nil, Int.cast_ofNat_Int, Int.natCast_add, slots, wkL_nil, wkL_cons, wkB_nil, wkB_cons, wkR_nil, wkV_j, wkV_d, wkV_p, frz_d, pK_z, reduceCtorEq]
                  · rw [if_neg (fun e => by rcases e.2.2 with e | e <;> omega)] at hodd
                    simp (implicitDefEqProofs := false) (dsimp := false) only [decide_eq_false c3, ↓aw_skip, ↓aw_reg, ↓Qseq_n, ↓Qblk_n, ↓ops_nil, ↓ops_cons, ↓eval_tmp, ↓eval_int, ↓put_some, ↓binE_i, ↓bi_add, ↓in_i64, ↓op_move, ↓op_assign, ↓op_bin, List.getD_cons_zero, List.getD_cons_succ, List.set_cons_zero, List.set_cons_succ, Nat.reduceAdd, Nat.reduceSub, Nat.reduceMul, evK_go, reduceIte, Nat.reduceEqDiff, Nat.reduceLT, Int.cast_ofNat_Int, Int.natCast_add]
                    refine ⟨by omega, k + 1, by omega, by omega, ?_⟩
                    refine Wkn.of [0] [] ?_
                    simp (implicitDefEqProofs := false) (dsimp := false) only [hodd, ↓vcells_l, List.getD_cons_zero, List.set_cons_zero, List.set_cons_succ, List.length_cons, List.length_nil, Bool.and_self, Nat.reduceAdd, Nat.reduceSub, Nat.reduceMul, Nat.zero_add, List.replicate, evK_go, reduceIte, Nat.reduceEqDiff, Nat.reduceLT, and_self, Int.zero_add, List.foldl_cons, List.foldl_nil, Int.cast_ofNat_Int, Int.natCast_add, slots, wkL_nil, wkL_cons, wkB_nil, wkB_cons, wkR_nil, wkV_j, wkV_d, wkV_p, frz_d, pK_z, reduceCtorEq]
            · rw [if_neg (fun e => c1 (by omega))] at hodd
              simp (implicitDefEqProofs := false) (dsimp := false) only [decide_eq_false c1, ↓cdK_false, ↓gdK_junk, ↓gdK_t, ↓gval_mk, ↓gvL_zero, ↓gvL_succ, ↓aw_cond, ↓aw_skip, ↓aw_reg, ↓Qseq_n, ↓Qblk_n, ↓ops_nil, ↓ops_cons, ↓ops_guard, ↓eval_tmp, ↓eval_int, ↓eval_bool, ↓put_some, ↓bK_b, ↓binE_i, ↓bi_add, ↓in_i64, ↓op_move, ↓op_assign, ↓op_pick, ↓op_bin, ↓st_tm, List.getD_cons_zero, List.getD_cons_succ, List.set_cons_zero, List.set_cons_succ, Nat.reduceAdd, Nat.reduceSub, Nat.reduceMul, evK_go, reduceIte, Nat.reduceEqDiff, Nat.reduceLT, Int.cast_ofNat_Int, Int.natCast_add]
              refine ⟨by omega, k + 1, by omega, by omega, ?_⟩
              refine Wkn.of [0] [] ?_
              simp (implicitDefEqProofs := false) (dsimp := false) only [hodd, ↓vcells_l, List.getD_cons_zero, List.set_cons_zero, List.set_cons_succ, List.length_cons, List.length_nil, Bool.and_self, Nat.reduceAdd, Nat.reduceSub, Nat.reduceMul, Nat.zero_add, List.replicate, evK_go, reduceIte, Nat.reduceEqDiff, Nat.reduceLT, and_self, Int.zero_add, List.foldl_cons, List.foldl_nil, Int.cast_ofNat_Int, Int.natCast_add, slots, wkL_nil, wkL_cons, wkB_nil, wkB_cons, wkR_nil, wkV_j, wkV_d, wkV_p, frz_d, pK_z, reduceCtorEq]
        · obtain rfl : k = m := by omega
          have ha1 : odA S k (a + 1) = odK S a (odA S k a) k := rfl
          simp (implicitDefEqProofs := false) (dsimp := false) only [eval_nilI, ↓aw_seq, ↓aw_exit, ↓aw_ret, ↓aw_reg, ↓Qseq_n, ↓Qseq_x, ↓Qblk_n, ↓Qblk_x, ↓Qret_r, ↓ops_nil, ↓ops_cons, ↓eval_tmp, ↓eval_int, ↓put_some, ↓binE_i, ↓bi_add, ↓in_i64, ↓op_move, ↓op_assign, ↓op_bin, ↓td_d, ↓ret_2, List.getD_cons_zero, List.getD_cons_succ, List.set_cons_zero, List.set_cons_succ, Nat.reduceAdd, Nat.reduceSub, Nat.reduceMul, evK_go, reduceIte, Nat.reduceEqDiff, Nat.reduceLT]
          refine ⟨by omega, a + 1, by omega, by omega, ?_⟩
          refine Wkn.of [0] [] ?_
          simp (implicitDefEqProofs := false) (dsimp := false) only [ha1, ↓vcells_l, List.getD_cons_zero, List.set_cons_zero, List.set_cons_succ, List.length_cons, List.length_nil, Bool.and_self, Nat.reduceAdd, Nat.reduceSub, Nat.reduceMul, Nat.zero_add, List.replicate, evK_go, reduceIte, Nat.reduceEqDiff, Nat.reduceLT, and_self, Int.zero_add, List.foldl_cons, List.foldl_nil, Int.cast_ofNat_Int, Int.natCast_add, slots, wkL_nil, wkL_cons, wkB_nil, wkB_cons, wkR_nil, wkV_j, wkV_d, wkV_p, frz_d, pK_z, reduceCtorEq]
    · obtain rfl : a = m := by omega
      simp (implicitDefEqProofs := false) (dsimp := false) only [hodn, eval_nilI, ↓aw_seq, ↓aw_exit, ↓aw_ret, ↓aw_reg, ↓Qseq_n, ↓Qseq_x, ↓Qblk_x, ↓Qret_r, ↓ops_nil, ↓ops_cons, ↓eval_tmp, ↓put_some, ↓op_move, ↓op_assign, ↓td_d, ↓ret_2, List.getD_cons_zero, List.getD_cons_succ, List.set_cons_zero, List.set_cons_succ, Nat.reduceAdd, Nat.reduceSub, Nat.reduceMul, evK_go, reduceIte, decide_false, Nat.reduceEqDiff, Nat.reduceLT, Nat.lt_irrefl]
      rfl
theorem hodd_call (n : Int) (l : List (Int × Int)) (pure : Bool) (σ : St) (dst : Option Tmp) (K : St → Prop) : CallH Try.prog 11 [I .i64 n, .l (l.map lnD)] pure σ dst (.mk : Hid K) = OrH ((l.length < 2 ^ 62) ∧ (pure || D.flat (.t [I .i64 (oddR n l : Nat), erD (chk n l)])) = true ∧ evK (σ.put dst (.d (.t [I .i64 (oddR n l : Nat), erD (chk n l)]))) (.mk : Hid K)) (.mk : Hid (CallH Try.prog 11 [I .i64 n, .l (l.map lnD)] pure σ dst (.mk : Hid K))) := CallH.eq (hodd_spec n l) pure σ dst K
end Go.Proofs

namespace Go.Proofs
open Go.Aw
set_option linter.unusedSimpArgs false
set_option maxRecDepth 10000
theorem can_spec (nb : List Nat) (many : Nat) (hnb : nb.length ≤ 8 ∧ ∀ x ∈ nb, x < 2 ^ 64) (hm : many ≤ 64) : ∀ (k : Nat) (out : List Nat), out.length + k = nb.length → FnD Try.prog 22 [.l (nb.map U), .l (out.map nD), I .i64 (many : Int)] (Bo (canF nb many k out)) := by
  intro k
  induction k with
  | zero =>
    intro out hl
    have d1 : decide (out.length = nb.length) = true := decide_eq_true (by omega)
    refine FnD.go Try.func22 rfl rfl Try.results22 Try.ntmps22 ?_
    simp (implicitDefEqProofs := false) (dsimp := false) only [↓aw_cond, ↓aw_seq, ↓aw_reg, ↓Qseq_n, ↓ops_nil, ↓ops_cons, ↓eval_tmp, ↓eval_bool, ↓put_some, ↓bK_b, ↓lenK_l, ↓binE_i, ↓bi_eql, ↓op_move, ↓op_assign, ↓op_bin, ↓op_len, ↓sl29, ↓sl45, List.getD_cons_zero, List.getD_cons_succ, List.set_cons_zero, List.set_cons_succ, List.cons_append, List.nil_append, List.map_cons, List.map_nil, List.length_cons, List.length_nil, List.length_map, Nat.reduceAdd, Nat.reduceSub, Nat.reduceMul, Nat.zero_add, List.replicate, evK_go, reduceIte, Nat.reduceEqDiff, Nat.reduceLT, Int.zero_add, Int.natCast_inj]
    simp (implicitDefEqProofs := false) (dsimp := false) only [d1, canF, ↓cdK_true, ↓aw_seq, ↓aw_ret, ↓aw_reg, ↓Qseq_n, ↓Qseq_r, ↓Qret_r, ↓ops_nil, ↓ops_cons, ↓eval_tmp, ↓eval_bool, ↓put_some, ↓op_assign, ↓td_d, ↓ret_1, List.getD_cons_zero, List.getD_cons_succ, List.set_cons_zero, List.set_cons_succ, Nat.reduceAdd, Nat.reduceSub, Nat.reduceMul, evK_go, reduceIte, Nat.reduceEqDiff, Nat.reduceLT]
    skip
  | succ k ih =>
    intro out hl
    have d1 : decide (out.length = nb.length) = false := decide_eq_false (by omega)
    have hC : canF nb many (k + 1) out = (List.range many).any fun c => freeC nb out c && canF nb many k (out ++ [c]) := rfl
    have hcA := fun c => CallH.eq0 (ih (out ++ [c]) (by simp; omega))
    rw [hC]
    have hol : out.length < nb.length := by omega
    obtain ⟨hnl, hnt⟩ := hnb
    have hat := hnt _ (getD_mem hol)
    clear ih hC
    refine FnD.go Try.func22 rfl rfl Try.results22 Try.ntmps22 ?_
    simp (implicitDefEqProofs := false) (dsimp := false) only [↓aw_cond, ↓aw_seq, ↓aw_reg, ↓Qseq_n, ↓ops_nil, ↓ops_cons, ↓eval_tmp, ↓eval_bool, ↓put_some, ↓bK_b, ↓lenK_l, ↓binE_i, ↓bi_eql, ↓op_move, ↓op_assign, ↓op_bin, ↓op_len, ↓sl29, ↓sl45, List.getD_cons_zero, List.getD_cons_succ, List.set_cons_zero, List.set_cons_succ, List.cons_append, List.nil_append, List.map_cons, List.map_nil, List.length_cons, List.length_nil, List.length_map, Nat.reduceAdd, Nat.reduceSub, Nat.reduceMul, Nat.zero_add, List.replicate, evK_go, reduceIte, Nat.reduceEqDiff, Nat.reduceLT, Int.zero_add, Int.natCast_inj]
    simp (implicitDefEqProofs := false) (dsimp := false) only [d1, ↓cdK_false, ↓aw_seq, ↓aw_block, ↓aw_skip, ↓aw_loop, ↓aw_reg, ↓Qseq_n, ↓ops_nil, ↓ops_cons, ↓eval_tmp, ↓eval_int, ↓put_some, ↓op_move, List.getD_cons_zero, List.getD_cons_succ, List.set_cons_zero, List.set_cons_succ, Nat.reduceAdd, Nat.reduceSub, Nat.reduceMul, evK_go, reduceIte, Nat.reduceEqDiff, Nat.reduceLT]
    refine loopW (fun c : Nat => { tm := slots 59 [(0, .d (.l (nb.map U))), (1, .d (.l (out.map nD))), (2, .d (I .i64 many)), (7, .d (I .i64 out.length)), (18, .d (I .i64 many)), (19, .d (I .i64 c))], bx := [], rw := [] })
      (fun c => c ≤ many ∧ ((List.range c).any fun c => freeC nb out c && canF nb many k (out ++ [c])) = false) (fun c => many - c) 0 ⟨by omega, by simp⟩ ?_ ?_
    · refine Wkn.of [] [] ?_; simp (implicitDefEqProofs := false) (dsimp := false) only [List.set_cons_zero, List.set_cons_succ, Bool.and_self, Nat.reduceAdd, Nat.reduceSub, Nat.reduceMul, List.replicate, evK_go, reduceIte, Nat.reduceEqDiff, Nat.reduceLT, and_self, List.foldl_cons, List.foldl_nil, Int.cast_ofNat_Int, slots, wkL_nil, wkL_cons, wkB_nil, wkR_nil, wkV_j, wkV_d, frz_d, reduceCtorEq]
    · rintro c ⟨hc, hno⟩
      simp (implicitDefEqProofs := false) (dsimp := false) only [slots, ↓aw_cond, ↓aw_seq, ↓aw_reg, ↓Qseq_n, ↓ops_nil, ↓ops_cons, ↓eval_tmp, ↓put_some, ↓bK_b, ↓binE_i, ↓bi_lss, ↓op_bin, List.getD_cons_zero, List.getD_cons_succ, List.set_cons_zero, List.set_cons_succ, Nat.reduceAdd, Nat.reduceSub, Nat.reduceMul, List.replicate, evK_go, reduceIte, Nat.reduceEqDiff, Nat.reduceLT, List.foldl_cons, List.foldl_nil, Int.ofNat_lt]
      refine cdK_dec (fun h => ?_) (fun h => ?_)
      · have hany : ((List.range (c + 1)).any fun c => freeC nb out c && canF nb many k (out ++ [c])) = (freeC nb out c && canF nb many k (out ++ [c])) := by
          rw [List.range_succ, List.any_append, hno]; simp
        have hall : (freeC nb out c && canF nb many k (out ++ [c])) = true → ((List.range many).any fun c => freeC nb out c && canF nb many k (out ++ [c])) = true := fun h' => List.any_eq_true.2 ⟨c, List.mem_range.2 h, h'⟩
        simp (implicitDefEqProofs := false) (dsimp := false) only [↓aw_seq, ↓aw_block, ↓aw_skip, ↓aw_loop, ↓aw_reg, ↓Qseq_n, ↓ops_nil, ↓ops_cons, ↓eval_tmp, ↓eval_int, ↓eval_bool, ↓put_some, ↓lenK_l, ↓op_move, ↓op_assign, ↓op_len, ↓sl29, List.getD_cons_zero, List.getD_cons_succ, List.set_cons_zero, List.set_cons_succ, List.length_map, Nat.reduceAdd, Nat.reduceSub, Nat.reduceMul, evK_go, reduceIte, Nat.reduceEqDiff, Nat.reduceLT]
        let fK : Nat → Bool := fun j => (List.range j).all fun j => !decide (out.getD j default = c) || !(nb.getD out.length default).testBit j
        have hf0 : fK 0 = true := rfl
        have hfS : ∀ j, fK (j + 1) = (fK j && (!decide (out.getD j default = c) || !(nb.getD out.length default).testBit j)) := fun j => by
          show (List.range (j + 1)).all _ = _
          rw [List.range_succ, List.all_append]; simp [fK]
        have hfE : fK out.length = freeC nb out c := rfl
        clear_value fK
        refine loopW (fun j : Nat => { tm := slots 59 [(0, .d (.l (nb.map U))), (1, .d (.l (out.map nD))), (2, .d (I .i64 many)), (7, .d (I .i64 out.length)), (8, .d (I .i64 c)), (9, .d (Bo (fK j))), (18, .d (I .i64 many)), (19, .d (I .i64 c)), (22, .d (.l (out.map nD))), (23, .d (I .i64 out.length)), (24, .d (I .i64 j))], bx := [], rw := [] })
          (fun j => j ≤ out.length) (fun j => out.length - j) 0 (by simp) ?_ ?_
        · refine Wkn.of [] [] ?_; simp (implicitDefEqProofs := false) (dsimp := false) only [hf0, List.set_cons_zero, List.set_cons_succ, Bool.and_self, Nat.reduceAdd, Nat.reduceSub, Nat.reduceMul, List.replicate, evK_go, reduceIte, Nat.reduceEqDiff, Nat.reduceLT, and_self, List.foldl_cons, List.foldl_nil, Int.cast_ofNat_Int, slots, wkL_nil, wkL_cons, wkB_nil, wkR_nil, wkV_j, wkV_d, frz_d, reduceCtorEq]
        · intro j hj
          have hS := hfS j
          simp (implicitDefEqProofs := false) (dsimp := false) only [slots, ↓aw_cond, ↓aw_seq, ↓aw_reg, ↓Qseq_n, ↓ops_nil, ↓ops_cons, ↓eval_tmp, ↓put_some, ↓bK_b, ↓binE_i, ↓bi_lss, ↓op_bin, List.getD_cons_zero, List.getD_cons_succ, List.set_cons_zero, List.set_cons_succ, Nat.reduceAdd, Nat.reduceSub, Nat.reduceMul, List.replicate, evK_go, reduceIte, Nat.reduceEqDiff, Nat.reduceLT, List.foldl_cons, List.foldl_nil, Int.ofNat_lt]
          refine cdK_dec (fun h2 => ?_) (fun h2 => ?_)
          · generalize fK j = b at hS ⊢
            have hj64 : j ≤ 64 := by omega
            cases b with
            | false =>
              rw [Bool.false_and] at hS
              simp (implicitDefEqProofs := false) (dsimp := false) only [h2, nD, ↓cdK_false, ↓gdK_junk, ↓gdK_t, ↓gval_mk, ↓gvL_zero, ↓gvL_succ, ↓atK_H, ↓atH_map, ↓aw_seq, ↓aw_block, ↓aw_skip, ↓aw_reg, ↓Qseq_n, ↓Qblk_n, ↓ops_nil, ↓ops_cons, ↓ops_guard, ↓eval_tmp, ↓eval_int, ↓eval_bool, ↓put_some, ↓bK_b, ↓iK_i, ↓binE_i, ↓bi_add, ↓in_i64, ↓ldK_q, ↓iaK_l, ↓op_move, ↓op_assign, ↓op_pick, ↓op_load, ↓op_bin, ↓op_ia, ↓st_tm, ↓cells_c, ↓hd_cons, ↓ty3, ↓sl29, List.getD_cons_zero, List.getD_cons_succ, List.set_cons_zero, List.set_cons_succ, List.length_cons, List.length_nil, Bool.true_and, Nat.reduceAdd, Nat.reduceSub, Nat.reduceMul, Nat.zero_add, Int.toNat_natCast, evK_go, reduceIte, decide_true, Nat.reduceEqDiff, Nat.reduceLT, true_and, Int.zero_add, Int.natCast_nonneg]
              refine ⟨by omega, j + 1, by omega, by omega, ?_⟩
              refine Wkn.of [] [] ?_; simp (implicitDefEqProofs := false) (dsimp := false) only [hS, List.set_cons_zero, List.set_cons_succ, Bool.and_self, Nat.reduceAdd, Nat.reduceSub, Nat.reduceMul, List.replicate, evK_go, reduceIte, Nat.reduceEqDiff, Nat.reduceLT, and_self, List.foldl_cons, List.foldl_nil, Int.cast_ofNat_Int, Int.natCast_add, slots, wkL_nil, wkL_cons, wkB_nil, wkR_nil, wkV_j, wkV_d, frz_d, reduceCtorEq]
            | true =>
              rw [Bool.true_and] at hS
              by_cases h3 : out.getD j default = c
              · have d3 := decide_eq_true h3
                rw [d3, Bool.not_true, Bool.false_or] at hS
                simp (implicitDefEqProofs := false) (dsimp := false) only [h2, nD, hol, hasS_call, hat, hj64, d3, ↓cdK_true, ↓cdK_false, ↓gdK_t, ↓gdK_f, ↓gval_mk, ↓gvL_zero, ↓gvL_succ, ↓atK_H, ↓atH_map, ↓aw_seq, ↓aw_block, ↓aw_skip, ↓aw_reg, ↓Qseq_n, ↓Qblk_n, ↓ops_nil, ↓ops_cons, ↓ops_guard, ↓eval_tmp, ↓eval_int, ↓eval_func, ↓put_some, ↓bK_b, ↓iK_i, ↓binE_i, ↓bi_add, ↓bi_neq, ↓in_i64, ↓ldK_q, ↓iaK_l, ↓op_move, ↓op_assign, ↓op_pick, ↓op_load, ↓op_bin, ↓op_not, ↓op_ia, ↓op_call, isD_d, ↓fnK_f, ↓call_H, ↓callK_H, ↓allT_nil, ↓allT_cons, ↓td_d, ↓st_tm, ↓cells_c, ↓hd_cons, ↓ty3, ↓sl29, ↓sl45, ↓ty49, List.getD_cons_zero, List.getD_cons_succ, List.set_cons_zero, List.set_cons_succ, List.append_nil, List.length_cons, List.length_nil, List.all_cons, List.all_nil, Bool.true_and, Bool.and_self, Bool.true_or, Nat.reduceAdd, Nat.reduceSub, Nat.reduceMul, Nat.zero_add, Int.toNat_natCast, evK_go, reduceIte, decide_true, Bool.not_true, Nat.reduceEqDiff, Nat.reduceLT, and_self, true_and, Int.zero_add, Int.natCast_nonneg, Int.natCast_inj]
                (repeat refine OrH.l ?_)
                refine ⟨by omega, j + 1, by omega, by omega, ?_⟩
                refine Wkn.of [] [] ?_; simp (implicitDefEqProofs := false) (dsimp := false) only [hS, List.set_cons_zero, List.set_cons_succ, Bool.and_self, Nat.reduceAdd, Nat.reduceSub, Nat.reduceMul, List.replicate, evK_go, reduceIte, Nat.reduceEqDiff, Nat.reduceLT, and_self, List.foldl_cons, List.foldl_nil, Int.cast_ofNat_Int, Int.natCast_add, slots, wkL_nil, wkL_cons, wkB_nil, wkR_nil, wkV_j, wkV_d, frz_d, reduceCtorEq]
              · have d3 := decide_eq_false h3
                rw [d3, Bool.not_false, Bool.true_or] at hS
                simp (implicitDefEqProofs := false) (dsimp := false) only [h2, nD, d3, ↓cdK_true, ↓gdK_t, ↓gdK_f, ↓gval_mk, ↓gvL_zero, ↓gvL_succ, ↓atK_H, ↓atH_map, ↓aw_seq, ↓aw_block, ↓aw_skip, ↓aw_reg, ↓Qseq_n, ↓Qblk_n, ↓ops_nil, ↓ops_cons, ↓ops_guard, ↓eval_tmp, ↓eval_int, ↓eval_bool, ↓put_some, ↓bK_b, ↓iK_i, ↓binE_i, ↓bi_add, ↓bi_neq, ↓in_i64, ↓ldK_q, ↓iaK_l, ↓op_move, ↓op_assign, ↓op_pick, ↓op_load, ↓op_bin, ↓op_ia, ↓st_tm, ↓cells_c, ↓hd_cons, ↓ty3, ↓sl29, List.getD_cons_zero, List.getD_cons_succ, List.set_cons_zero, List.set_cons_succ, List.length_cons, List.length_nil, Bool.true_and, Nat.reduceAdd, Nat.reduceSub, Nat.reduceMul, Nat.zero_add, Int.toNat_natCast, evK_go, reduceIte, decide_true, Bool.not_false, Nat.reduceEqDiff, Nat.reduceLT, true_and, Int.zero_add, Int.natCast_nonneg, Int.natCast_inj]
                refine ⟨by omega, j + 1, by omega, by omega, ?_⟩
                refine Wkn.of [] [] ?_; simp (implicitDefEqProofs := false) (dsimp := false) only [hS, List.set_cons_zero, List.set_cons_succ, Bool.and_self, Nat.reduceAdd, Nat.reduceSub, Nat.reduceMul, List.replicate, evK_go, reduceIte, Nat.reduceEqDiff, Nat.reduceLT, and_self, List.foldl_cons, List.foldl_nil, Int.cast_ofNat_Int, Int.natCast_add, slots, wkL_nil, wkL_cons, wkB_nil, wkR_nil, wkV_j, wkV_d, frz_d, reduceCtorEq]
          · obtain rfl : j = out.length := by omega
            rw [hfE]
            cases hfc : freeC nb out c with
            | false =>
              rw [hfc, Bool.false_and] at hany
              simp (implicitDefEqProofs := false) (dsimp := false) only [↓cdK_false, ↓gdK_t, ↓gval_mk, ↓gvL_zero, ↓gvL_succ, ↓aw_cond, ↓aw_seq, ↓aw_exit, ↓aw_ret, ↓aw_skip, ↓aw_reg, ↓Qseq_n, ↓Qseq_x, ↓Qblk_n, ↓Qblk_x, ↓Qret_r, ↓ops_nil, ↓ops_cons, ↓ops_guard, ↓eval_tmp, ↓eval_int, ↓eval_bool, ↓put_some, ↓bK_b, ↓binE_i, ↓bi_add, ↓in_i64, ↓op_move, ↓op_assign, ↓op_pick, ↓op_bin, ↓td_d, ↓ret_1, ↓st_tm, List.getD_cons_zero, List.getD_cons_succ, List.set_cons_zero, List.set_cons_succ, Nat.reduceAdd, Nat.reduceSub, Nat.reduceMul, evK_go, reduceIte, decide_false, Nat.reduceEqDiff, Nat.reduceLT, Nat.lt_irrefl]
              refine ⟨by omega, c + 1, ⟨by omega, hany⟩, by omega, ?_⟩
              refine Wkn.of [] [] ?_; simp (implicitDefEqProofs := false) (dsimp := false) only [List.set_cons_zero, List.set_cons_succ, Bool.and_self, Nat.reduceAdd, Nat.reduceSub, Nat.reduceMul, List.replicate, evK_go, reduceIte, Nat.reduceEqDiff, Nat.reduceLT, and_self, List.foldl_cons, List.foldl_nil, Int.cast_ofNat_Int, Int.natCast_add, slots, wkL_nil, wkL_cons, wkB_nil, wkR_nil, wkV_j, wkV_d, frz_d, reduceCtorEq]
            | true =>
              rw [hfc, Bool.true_and] at hany hall
              have e1 : List.take (out.length + 1) (List.map nD out ++ [I .i64 (c : Int)]) = List.map nD (out ++ [c]) := by
                rw [List.map_append]
                exact List.take_of_length_le (by simp)
              have hcAc := hcA c
              simp (implicitDefEqProofs := false) (dsimp := false) only [↓cdK_true, ↓gdK_t, ↓gval_mk, ↓gvL_zero, ↓gvL_succ, ↓optK_some, ↓rwK_mk_, ↓aw_seq, ↓aw_exit, ↓aw_ret, ↓aw_reg, ↓Qseq_n, ↓Qseq_x, ↓Qblk_x, ↓Qret_r, ↓ops_nil, ↓ops_cons, ↓ops_guard, ↓eval_tmp, ↓eval_int, ↓eval_bool, ↓eval_func, ↓put_some, ↓iK_i, ↓dK_d, ↓sl3K_l, ↓optI_none, ↓optI_some, ↓binE_i, ↓bi_add, ↓in_i64, ↓op_move, ↓op_assign, ↓op_bin, ↓op_slice3, ↓op_append, ↓op_call, isD_d, isD_o, ↓fnK_f, ↓call_H, ↓callK_H, ↓allT_nil, ↓allT_cons, ↓allD_nil, ↓allD_cons, ↓td_d, ↓td_o, ↓ret_1, ↓addRow_mk, ↓st_tm, ↓st_rw, ↓row_xs, ↓cells_c, ↓one_i, ↓ap_, ↓ap_t, ↓src_l, ↓bs_, ↓op_bs, ↓bsL_f, ↓stored_mk, ↓sl_nil, ↓sl_cons, ↓sT_move, ↓sT_pick, ↓sT_slice, ↓sT_bs, ↓sT_call, ↓vsz_int, ↓inO_1, ↓fm_nil, ↓fm_cons, ↓ty3, ↓zb3, ↓sl29, List.getD_cons_zero, List.getD_cons_succ, List.set_cons_zero, List.set_cons_succ, List.nil_append, List.append_nil, List.map_cons, List.map_nil, List.length_cons, List.length_nil, List.length_map, List.all_cons, List.all_nil, Bool.and_true, Bool.true_and, Bool.and_self, Bool.and_false, Bool.or_false, Nat.reduceAdd, Nat.reduceSub, Nat.reduceMul, Nat.zero_add, evK_go, reduceIte, decide_false, Nat.reduceEqDiff, Nat.reduceLT, and_self, true_and, and_true, ne_eq, Nat.lt_irrefl, Int.zero_add, List.drop_zero]
              refine ⟨by decide, ⟨fun y hy => ?_, by simp, by omega, by omega⟩, ?_⟩
              · obtain ⟨x, _, rfl⟩ := List.mem_map.1 hy
                exact ⟨rfl, rfl⟩
              rw [e1]
              generalize canF nb many k (out ++ [c]) = b at hany hall hcAc
              cases b with
              | false =>
                simp (implicitDefEqProofs := false) (dsimp := false) only [hcAc, ↓cdK_true, ↓cdK_false, ↓aw_cond, ↓aw_skip, ↓aw_reg, ↓Qseq_n, ↓Qblk_n, ↓ops_nil, ↓ops_cons, ↓eval_tmp, ↓eval_int, ↓put_some, ↓bK_b, ↓binE_i, ↓bi_add, ↓in_i64, ↓op_move, ↓op_pick, ↓op_bin, List.getD_cons_zero, List.getD_cons_succ, List.set_cons_zero, List.set_cons_succ, Bool.false_or, Nat.reduceAdd, Nat.reduceSub, Nat.reduceMul, evK_go, reduceIte, Nat.reduceEqDiff, Nat.reduceLT]
                (repeat refine OrH.l ?_)
                refine ⟨rfl, by omega, c + 1, ⟨by omega, hany⟩, by omega, ?_⟩
                refine Wkn.of [] [] ?_; simp (implicitDefEqProofs := false) (dsimp := false) only [List.set_cons_zero, List.set_cons_succ, Bool.and_self, Nat.reduceAdd, Nat.reduceSub, Nat.reduceMul, List.replicate, evK_go, reduceIte, Nat.reduceEqDiff, Nat.reduceLT, and_self, List.foldl_cons, List.foldl_nil, Int.cast_ofNat_Int, Int.natCast_add, slots, wkL_nil, wkL_cons, wkB_nil, wkR_nil, wkV_j, wkV_d, frz_d, reduceCtorEq]
              | true =>
                rw [hall rfl]
                simp (implicitDefEqProofs := false) (dsimp := false) only [hcAc, ↓cdK_true, ↓aw_cond, ↓aw_seq, ↓aw_ret, ↓aw_reg, ↓Qseq_n, ↓Qseq_r, ↓Qblk_r, ↓Qret_r, ↓ops_nil, ↓ops_cons, ↓eval_tmp, ↓eval_bool, ↓put_some, ↓bK_b, ↓op_assign, ↓op_pick, ↓td_d, ↓ret_1, List.getD_cons_zero, List.getD_cons_succ, List.set_cons_zero, List.set_cons_succ, Bool.and_true, Bool.false_or, Nat.reduceAdd, Nat.reduceSub, Nat.reduceMul, evK_go, reduceIte, Nat.reduceEqDiff, Nat.reduceLT, and_true]
                (repeat refine OrH.l ?_)
                rfl
      · obtain rfl : c = many := by omega
        rw [hno]
        simp (implicitDefEqProofs := false) (dsimp := false) only [↓aw_seq, ↓aw_exit, ↓aw_ret, ↓aw_reg, ↓Qseq_n, ↓Qseq_x, ↓Qblk_x, ↓Qret_r, ↓ops_nil, ↓ops_cons, ↓eval_tmp, ↓eval_bool, ↓put_some, ↓op_assign, ↓td_d, ↓ret_1, List.getD_cons_zero, List.getD_cons_succ, List.set_cons_zero, List.set_cons_succ, Nat.reduceAdd, Nat.reduceSub, Nat.reduceMul, evK_go, reduceIte, decide_false, Nat.reduceEqDiff, Nat.reduceLT, Nat.lt_irrefl]
def colI (n : Int) (l : List (Int × Int)) : Nat := if chk n l = 0 then colN (outS n.toNat (symL (natL l))) n.toNat else 0
theorem can0_spec (nb : List Nat) (many : Nat) (hpre : (nb.length ≤ 8 ∧ ∀ x ∈ nb, x < 2 ^ 64) ∧ many ≤ 64) : FnD Try.prog 22 [.l (nb.map U), .l [], I .i64 (many : Int)] (Bo (canF nb many nb.length [])) := by
  have h := can_spec nb many hpre.1 hpre.2 nb.length [] (by simp)
  exact h
theorem can0_call (nb : List Nat) (many : Nat) (pure : Bool) (σ : St) (dst : Option Tmp) (K : St → Prop) : CallH Try.prog 22 [.l (nb.map U), .l [], I .i64 (many : Int)] pure σ dst (.mk : Hid K) = OrH (((nb.length ≤ 8 ∧ ∀ x ∈ nb, x < 2 ^ 64) ∧ many ≤ 64) ∧ (pure || D.flat (Bo (canF nb many nb.length []))) = true ∧ evK (σ.put dst (.d (Bo (canF nb many nb.length [])))) (.mk : Hid K)) (.mk : Hid (CallH Try.prog 22 [.l (nb.map U), .l [], I .i64 (many : Int)] pure σ dst (.mk : Hid K))) := CallH.eq (can0_spec nb many) pure σ dst K
theorem cleast_spec (n : Int) (l : List (Int × Int)) (hpre : l.length < 2 ^ 62) : FnD Try.prog 9 [I .i64 n, .l (l.map lnD)] (.t [I .i64 (colI n l : Nat), erD (chk n l)]) := by
  refine FnD.go Try.func9 rfl rfl Try.results9 Try.ntmps9 ?_
  simp (implicitDefEqProofs := false) (dsimp := false) only [↓aw_seq, ↓aw_reg, ↓Qseq_n, ↓ops_nil, ↓ops_cons, ↓eval_tmp, ↓eval_int, ↓eval_func, ↓put_some, ↓op_move, ↓op_assign, ↓op_call, isD_d, ↓fnK_f, ↓call_H, ↓callK_H, ↓allT_nil, ↓allT_cons, ↓td_d, List.getD_cons_zero, List.getD_cons_succ, List.set_cons_zero, List.set_cons_succ, List.cons_append, List.nil_append, List.append_nil, List.map_cons, List.map_nil, List.length_cons, List.length_nil, List.all_cons, List.all_nil, Bool.and_self, Nat.reduceAdd, Nat.reduceSub, Nat.reduceMul, Nat.zero_add, List.replicate, evK_go, reduceIte, Nat.reduceEqDiff, Nat.reduceLT, and_self, Int.zero_add]
  simp (implicitDefEqProofs := false) (dsimp := false) only [gcheck_call, hpre, eval_nilI, ↓er_neq, er_flat, ↓cdK_not, ↓aw_cond, ↓aw_seq, ↓aw_reg, ↓Qseq_n, ↓ops_nil, ↓ops_cons, ↓eval_tmp, ↓put_some, ↓bK_b, ↓op_move, ↓op_assign, ↓op_bin, List.getD_cons_zero, List.getD_cons_succ, List.set_cons_zero, List.set_cons_succ, Bool.true_and, Bool.or_true, Nat.reduceAdd, Nat.reduceSub, Nat.reduceMul, evK_go, reduceIte, Nat.reduceEqDiff, Nat.reduceLT, true_and]
  (repeat refine OrH.l ?_)
  refine cdK_dec (fun hc => ?_) (fun hc => ?_)
  rotate_left
  · have e : colI n l = 0 := if_neg hc
    simp (implicitDefEqProofs := false) (dsimp := false) only [e, ↓aw_seq, ↓aw_ret, ↓aw_reg, ↓Qseq_n, ↓Qseq_r, ↓Qret_r, ↓ops_nil, ↓ops_cons, ↓eval_tmp, ↓eval_int, ↓put_some, ↓op_move, ↓op_assign, ↓td_d, ↓ret_2, List.getD_cons_zero, List.getD_cons_succ, List.set_cons_zero, List.set_cons_succ, Nat.reduceAdd, Nat.reduceSub, Nat.reduceMul, evK_go, reduceIte, Nat.reduceEqDiff, Nat.reduceLT, Int.cast_ofNat_Int]
    skip
  have ok := chk_ok hc
  rw [show colI n l = colN (outS n.toNat (symL (natL l))) n.toNat from if_pos hc, lnD_nat ok.rng, hc]
  have hcr := ok.cr
  have h8 := ok.hi
  have e0 := ok.n0
  have hlo := ok.lo
  clear ok hc hpre
  generalize n.toNat = m at *
  subst e0
  generalize natL l = L at *
  have hsg := symL_good hcr.2.2
  have hSl := outS_len m (symL L)
  have hSt := outS_lt' (n := m) (by omega) hsg
  simp (implicitDefEqProofs := false) (dsimp := false) only [beside_callD, hcr, ↓aw_seq, ↓aw_block, ↓aw_skip, ↓aw_loop, ↓aw_reg, ↓Qseq_n, ↓ops_nil, ↓ops_cons, ↓eval_tmp, ↓eval_int, ↓eval_func, ↓put_some, ↓op_move, ↓op_assign, ↓op_call, isD_d, ↓fnK_f, ↓call_H, ↓callK_H, ↓allT_nil, ↓allT_cons, ↓td_d, List.getD_cons_zero, List.getD_cons_succ, List.set_cons_zero, List.set_cons_succ, List.append_nil, List.all_cons, List.all_nil, Bool.true_and, Bool.and_self, Bool.true_or, Nat.reduceAdd, Nat.reduceSub, Nat.reduceMul, evK_go, reduceIte, decide_true, Bool.not_true, Nat.reduceEqDiff, Nat.reduceLT, and_self, true_and]
  (repeat refine OrH.l ?_)
  generalize outS m (symL L) = S at *
  obtain ⟨c1, c2, c3, c4⟩ := colN_spec S (show 0 < m by omega)
  generalize colN S m = C at *
  refine loopW (fun k : Nat => { tm := slots 25 [(7, .d (.l (S.map U))), (8, .d (I .i64 k))], bx := [], rw := [] })
    (fun k => 1 ≤ k ∧ k ≤ C) (fun k => C - k) 1 ⟨Nat.le_refl _, c1⟩ ?_ ?_
  · refine Wkn.of [] [] ?_; simp (implicitDefEqProofs := false) (dsimp := false) only [List.set_cons_zero, List.set_cons_succ, Bool.and_self, Nat.reduceAdd, Nat.reduceSub, Nat.reduceMul, List.replicate, evK_go, reduceIte, Nat.reduceEqDiff, Nat.reduceLT, and_self, List.foldl_cons, List.foldl_nil, Int.cast_ofNat_Int, slots, wkL_nil, wkL_cons, wkB_nil, wkR_nil, wkV_j, wkV_d, frz_d, reduceCtorEq]
    skip
  · rintro k ⟨hk1, hk⟩
    have hk64 : k ≤ 64 := by omega
    simp (implicitDefEqProofs := false) (dsimp := false) only [slots, can0_call, hk64, hSl, ↓cdK_not, ↓aw_cond, ↓aw_seq, ↓aw_reg, ↓Qseq_n, ↓ops_nil, ↓ops_cons, ↓eval_tmp, ↓eval_nil, ↓eval_func, ↓put_some, ↓bK_b, ↓op_move, ↓op_not, ↓op_call, isD_d, isD_nl, ↓fnK_f, ↓call_H, ↓callK_H, ↓allT_nil, ↓allT_cons, ↓td_d, ↓td_nl, List.getD_cons_zero, List.getD_cons_succ, List.set_cons_zero, List.set_cons_succ, List.append_nil, List.all_cons, List.all_nil, Bool.and_true, Bool.true_and, Bool.and_self, Bool.true_or, Nat.reduceAdd, Nat.reduceSub, Nat.reduceMul, List.replicate, evK_go, reduceIte, Nat.reduceEqDiff, Nat.reduceLT, and_self, true_and, and_true, List.foldl_cons, List.foldl_nil]
    (repeat refine OrH.l ?_)
    refine ⟨⟨h8, hSt⟩, cdK_split (fun hb => ?_) (fun hb => ?_)⟩
    · have hkC : k = C := by
        refine Classical.byContradiction fun hne => ?_
        have := c4 k hk1 (by omega)
        rw [this] at hb; cases hb
      rw [hkC]
      simp (implicitDefEqProofs := false) (dsimp := false) only [erD_0, eval_nilI, ↓aw_seq, ↓aw_exit, ↓aw_ret, ↓aw_reg, ↓Qseq_n, ↓Qseq_x, ↓Qblk_x, ↓Qret_r, ↓ops_nil, ↓ops_cons, ↓eval_tmp, ↓put_some, ↓op_move, ↓op_assign, ↓td_d, ↓ret_2, List.getD_cons_zero, List.getD_cons_succ, List.set_cons_zero, List.set_cons_succ, Nat.reduceAdd, Nat.reduceSub, Nat.reduceMul, evK_go, reduceIte, Nat.reduceEqDiff, Nat.reduceLT]
      skip
    · have hne : k ≠ C := fun e => by rw [e, c3] at hb; cases hb
      simp (implicitDefEqProofs := false) (dsimp := false) only [↓aw_block, ↓aw_skip, ↓aw_reg, ↓Qseq_n, ↓Qblk_n, ↓ops_nil, ↓ops_cons, ↓eval_tmp, ↓eval_int, ↓put_some, ↓binE_i, ↓bi_add, ↓in_i64, ↓op_move, ↓op_assign, ↓op_bin, List.getD_cons_zero, List.getD_cons_succ, List.set_cons_zero, List.set_cons_succ, Nat.reduceAdd, Nat.reduceSub, Nat.reduceMul, evK_go, reduceIte, Nat.reduceEqDiff, Nat.reduceLT]
      refine ⟨by omega, k + 1, by omega, by omega, ?_⟩
      refine Wkn.of [] [] ?_; simp (implicitDefEqProofs := false) (dsimp := false) only [List.set_cons_zero, List.set_cons_succ, Bool.and_self, Nat.reduceAdd, Nat.reduceSub, Nat.reduceMul, List.replicate, evK_go, reduceIte, Nat.reduceEqDiff, Nat.reduceLT, and_self, List.foldl_cons, List.foldl_nil, Int.cast_ofNat_Int, Int.natCast_add, slots, wkL_nil, wkL_cons, wkB_nil, wkR_nil, wkV_j, wkV_d, frz_d, reduceCtorEq]
theorem cleast_call (n : Int) (l : List (Int × Int)) (pure : Bool) (σ : St) (dst : Option Tmp) (K : St → Prop) : CallH Try.prog 9 [I .i64 n, .l (l.map lnD)] pure σ dst (.mk : Hid K) = OrH ((l.length < 2 ^ 62) ∧ (pure || D.flat (.t [I .i64 (colI n l : Nat), erD (chk n l)])) = true ∧ evK (σ.put dst (.d (.t [I .i64 (colI n l : Nat), erD (chk n l)]))) (.mk : Hid K)) (.mk : Hid (CallH Try.prog 9 [I .i64 n, .l (l.map lnD)] pure σ dst (.mk : Hid K))) := CallH.eq (cleast_spec n l) pure σ dst K
end Go.Proofs

namespace Go.Proofs
open Go.Aw
set_option linter.unusedSimpArgs false
set_option maxRecDepth 10000
theorem end2 {α : Type} (rest : List α) (x y z : α) (ys : List α) (d : α) : (rest ++ x :: y :: z :: ys).getD (rest.length + 2) d = z := by simp [List.getD_eq_getElem?_getD, List.getElem?_append_right]
theorem end3 {α : Type} (rest : List α) (x y z u : α) (ys : List α) (d : α) : (rest ++ x :: y :: z :: u :: ys).getD (rest.length + 3) d = u := by simp [List.getD_eq_getElem?_getD, List.getElem?_append_right]
theorem end4 {α : Type} (rest : List α) (x y z u v : α) (ys : List α) (d : α) : (rest ++ x :: y :: z :: u :: v :: ys).getD (rest.length + 4) d = v := by simp [List.getD_eq_getElem?_getD, List.getElem?_append_right]
theorem endS2 {α : Type} (rest : List α) (x y z w : α) (ys : List α) : (rest ++ x :: y :: z :: ys).set (rest.length + 2) w = rest ++ x :: y :: w :: ys := by simp [List.set_append]
theorem endS3 {α : Type} (rest : List α) (x y z u w : α) (ys : List α) : (rest ++ x :: y :: z :: u :: ys).set (rest.length + 3) w = rest ++ x :: y :: z :: w :: ys := by simp [List.set_append]
theorem bitsN {s n : Nat} (h : ∀ i, s.testBit i = true → i < n) : s < 2 ^ n := by
  refine Nat.lt_pow_two_of_testBit _ fun i hi => ?_
  rw [← Bool.not_eq_true]
  intro h'
  have := h i h'; omega
theorem vone_fp (f : Fn) (ps : List Nat) : V.one (.fp f ps) = true := rfl
theorem ret_0 (σ : St) (R : D → Prop) : retD Try.prog σ [] R = R (.t []) := rfl
theorem clos_spec (s most : Nat) (rest : List V) (rw : List (Option Row)) (gh : List V) (hs : s < 2 ^ 64) :
    FnM Try.prog 33 [.d (U s), .p 0 0] (.d (I .i64 (most : Nat)) :: rest) rw gh (fun d bx' rw' gh' => gh' = gh ∧ d = .t [] ∧ bx' = .d (I .i64 (max most (pts s).length : Nat)) :: rest ∧ rw' = rw) := by
  have hmax : (if most < (pts s).length then (((pts s).length : Nat) : Int) else ((most : Nat) : Int)) = ((max most (pts s).length : Nat) : Int) := by split <;> omega
  refine FnM.go Try.func33 rfl rfl Try.results33 Try.ntmps33 ?_
  simp (implicitDefEqProofs := false) (dsimp := false) only [len_callQ, hs, hmax, ↓nthK_H, ↓nthH_zero, ↓aw_draw, ↓ops_nil, ↓ops_cons, ↓eval_tmp, ↓eval_func, ↓put_some, ↓put_none, ↓iK_i, ↓ev_move, ↓ev_load, ↓ev_max, ↓ldK_p, ↓op_store, isD_d, ↓fnK_f, ↓callKQ_H, ↓allT_nil, ↓allT_cons, ↓td_d, ↓draw_H, ↓h_cons, ↓ldH_t, ↓ldH_n, ↓q_call, ↓q_bi, ↓q_move, ↓q_load, ↓il_move, ↓il_load, ↓il_call, ↓il_max, ↓il_store, ↓setBox_mk, ↓st_bx, ↓vcells_c, ↓one_i, ↓vone_d, ↓st_p, ↓ty3, List.getD_cons_zero, List.getD_cons_succ, List.set_cons_zero, List.set_cons_succ, List.cons_append, List.nil_append, List.append_nil, List.length_cons, List.length_nil, List.all_cons, List.all_nil, Bool.true_and, Bool.and_self, Bool.true_or, Nat.reduceAdd, Nat.reduceSub, Nat.reduceMul, Nat.zero_add, List.replicate, evK_go, reduceIte, Nat.reduceEqDiff, Nat.reduceLT, and_self, true_and, Int.zero_add, Int.ofNat_lt]
  exact OrH.l ⟨DrawH.of follows_mixed (by kernel_rfl), OrH.l (OrH.l ⟨rfl, rfl, rfl, rfl⟩)⟩
theorem whole_spec (nb : List Nat) (hnl : nb.length ≤ 8) (hnt : ∀ x ∈ nb, x < 2 ^ 64) (hirr : ∀ i, (nb.getD i default).testBit i = false) :
    ∀ (k has may no most : Nat) (rest : List V) (rw : List (Option Row)) (gh : List V), (pts may).length < k → has < 2 ^ 64 → may < 2 ^ nb.length → no < 2 ^ 64 → (∀ x ∈ rest, ∀ y ∈ x.cells, y.below (rest.length + 1)) →
      FnM Try.prog 32 [.d (.l (nb.map U)), .d (U has), .d (U may), .d (U no), .fp (.func 33) [0]] (.d (I .i64 (most : Nat)) :: rest) rw gh (fun d bx' rw' gh' => gh' = gh ∧ d = .t [] ∧ bx' = .d (I .i64 (whF nb k has may no most : Nat)) :: rest ∧ rw' = rw) := by
  intro k
  induction k with
  | zero => intro _ _ _ _ _ _ _ h; omega
  | succ k ih =>
    intro has may no most rest rw gh hk hhas hmay hno hrest
    have hmay64 : may < 2 ^ 64 := Nat.lt_of_lt_of_le hmay (Nat.pow_le_pow_right (by omega) (by omega))
    have hW : whF nb (k + 1) has may no most = if may = 0 then (if no = 0 then max most (pts has).length else most) else ((pts may).foldl (whJ (whF nb k) nb has) (may, no, most)).2.2 := rfl
    refine FnM.shrink (Kf' := fun d bx' rw' gh' => gh' = gh ∧ d = .t [] ∧ (∃ a b c d e, bx' = .d (I .i64 (whF nb (k + 1) has may no most : Nat)) :: (rest ++ [a, b, c, d, e])) ∧ rw' = rw) (FnM.go Try.func32 rfl rfl Try.results32 Try.ntmps32 ?_) ?_
    rotate_left
    · rintro d bx' rw' gh' ⟨rfl, rfl, ⟨a, b, c, d, e, rfl⟩, rfl⟩
      refine ⟨rfl, .d (I .i64 (whF nb (k + 1) has may no most : Nat)) :: rest, [a, b, c, d, e], by simp, by simp, ?_, rfl, rfl, rfl, rfl⟩
      intro x hx y hy
      rcases List.mem_cons.1 hx with rfl | hx
      · simp [V.cells] at hy; subst hy; trivial
      · exact hrest x hx y hy
    · rw [hW]
      simp (implicitDefEqProofs := false) (dsimp := false) only [vone_fp, List.append_assoc, List.length_append, end2, cells_fp, ↓nthK_H, ↓nthH_zero, ↓aw_cond, ↓aw_seq, ↓aw_reg, ↓Qseq_n, ↓ops_nil, ↓ops_cons, ↓eval_tmp, ↓eval_int, ↓put_some, ↓bK_b, ↓binE_i, ↓bi_eql, ↓ldK_p, ↓op_load, ↓op_bin, ↓op_box, ↓addBox_mk, ↓st_bx, ↓vcells_c, ↓vcells_l, ↓one_i, ↓one_l, ↓vone_d, ↓ty49, List.getD_cons_zero, List.getD_cons_succ, List.set_cons_zero, List.set_cons_succ, List.cons_append, List.nil_append, List.length_cons, List.length_nil, List.all_cons, List.all_nil, Bool.true_and, Bool.and_self, Nat.reduceAdd, Nat.reduceSub, Nat.reduceMul, Nat.zero_add, List.replicate, evK_go, reduceIte, Nat.reduceEqDiff, Nat.reduceLT, and_self, true_and, Int.zero_add]
      refine cdK_dec (fun hm => ?_) (fun hm => ?_)
      · rw [if_pos (by omega)]
        simp (implicitDefEqProofs := false) (dsimp := false) only [end3, ↓nthK_H, ↓nthH_zero, ↓aw_cond, ↓aw_seq, ↓aw_reg, ↓Qseq_n, ↓ops_nil, ↓ops_cons, ↓eval_tmp, ↓eval_int, ↓put_some, ↓bK_b, ↓binE_i, ↓bi_eql, ↓ldK_p, ↓op_load, ↓op_bin, ↓vcells_c, ↓ty49, List.getD_cons_zero, List.getD_cons_succ, List.set_cons_zero, List.set_cons_succ, Nat.reduceAdd, Nat.reduceSub, Nat.reduceMul, evK_go, reduceIte, Nat.reduceEqDiff, Nat.reduceLT]
        refine cdK_dec (fun hn => ?_) (fun hn => ?_)
        · rw [if_pos (by omega)]
          simp (implicitDefEqProofs := false) (dsimp := false) only [ty59, end1, end4, cells_fp, ↓nthK_H, ↓nthH_zero, ↓aw_reg, ↓ops_cons, ↓eval_tmp, ↓put_some, ↓ldK_p, ↓op_load, ↓op_call, isD_d, isD_fp, ↓fnK_f, ↓call_H, ↓callK_H, ↓allT_nil, ↓allT_cons, ↓td_d, ↓boxK_d, ↓td_fp, ↓bq_nil, ↓bq_cons, ↓cells_c, ↓vcells_c, ↓ty49, List.getD_cons_zero, List.getD_cons_succ, List.set_cons_zero, List.set_cons_succ, List.cons_append, List.nil_append, List.all_cons, List.all_nil, Bool.and_true, Bool.true_and, Bool.and_self, Nat.reduceAdd, Nat.reduceSub, Nat.reduceMul, Nat.zero_add, evK_go, reduceIte, Nat.reduceEqDiff, Nat.reduceLT, and_self, true_and, and_true, Int.zero_add, List.drop_zero]
          refine OrH.r (callM2 (fun gh => clos_spec has most (rest ++ [.d (.l (nb.map U)), .d (U has), .d (U may), .d (U no), .fp (.func 33) [0]]) rw gh hhas) rfl rfl rfl rfl rfl ?_)
          rintro d bx' rw' gh' ⟨rfl, rfl, rfl, rfl⟩
          refine ⟨rfl, ?_⟩
          simp (implicitDefEqProofs := false) (dsimp := false) only [QM_r, ret_0, ↓aw_ret, ↓Qseq_n, ↓Qseq_r, ↓ops_nil, ↓put_some, ↓st_tm, ↓st_bx, ↓st_rw, ↓st_gh, List.set_cons_zero, List.set_cons_succ, List.cons_append, List.nil_append, List.length_cons, List.length_nil, Bool.and_true, Bool.true_and, Nat.reduceAdd, Nat.reduceSub, Nat.reduceMul, Nat.zero_add, evK_go, reduceIte, Nat.reduceEqDiff, Nat.reduceLT, true_and, and_true, Int.zero_add, List.drop_zero, List.take_succ_cons, List.drop_succ_cons, List.take_zero]
          exact ⟨_, _, _, _, _, rfl⟩
        · rw [if_neg (by omega)]
          simp (implicitDefEqProofs := false) (dsimp := false) only [QM_r, ret_0, ↓aw_ret, ↓aw_skip, ↓Qseq_n, ↓Qseq_r, ↓st_bx, ↓st_rw, ↓st_gh, Bool.and_true, Bool.true_and, Nat.reduceAdd, Nat.reduceSub, Nat.reduceMul, evK_go, reduceIte, Nat.reduceEqDiff, Nat.reduceLT, true_and, and_true]
          exact ⟨_, _, _, _, _, rfl⟩
      · rw [if_neg (by omega)]
        simp (implicitDefEqProofs := false) (dsimp := false) only [end2, each_call, ↓nthK_H, ↓nthH_zero, ↓aw_seq, ↓aw_block, ↓aw_skip, ↓aw_rng, ↓aw_reg, ↓Qseq_n, ↓ops_nil, ↓ops_cons, ↓eval_tmp, ↓eval_func, ↓put_some, ↓ldK_p, ↓op_load, ↓op_call, isD_d, ↓fnK_f, ↓call_H, ↓callK_H, ↓allT_nil, ↓allT_cons, ↓td_d, ↓vcells_c, ↓ty49, List.getD_cons_zero, List.getD_cons_succ, List.set_cons_zero, List.set_cons_succ, List.append_nil, List.all_cons, List.all_nil, Bool.true_and, Bool.and_self, Bool.true_or, Nat.reduceAdd, Nat.reduceSub, Nat.reduceMul, evK_go, reduceIte, Nat.reduceEqDiff, Nat.reduceLT, and_self, true_and]
        (repeat refine OrH.l ?_)
        refine rangeG (slots 45 [(5, .p (rest.length + 1) 0), (6, .p (rest.length + 1 + 1) 0), (7, .p (rest.length + 2 + 1) 0), (8, .p (rest.length + 3 + 1) 0), (9, .p (rest.length + 4 + 1) 0), (19, .d (.f (.func 40) [.q [U may]]))]) gh
          (fun st : Nat × Nat × Nat => .d (I .i64 (st.2.2 : Nat)) :: (rest ++ [.d (.l (nb.map U)), .d (U has), .d (U st.1), .d (U st.2.1), .fp (.func 33) [0]])) (fun _ => rw)
          (fun ys st => ∃ P : List Nat, ys = P.map Int.ofNat ∧ st = P.foldl (whJ (whF nb k) nb has) (may, no, most) ∧ (∀ x, st.1.testBit x = true → may.testBit x = true) ∧ st.2.1 < 2 ^ 64) (may, no, most)
          (each_iter _ hmay64) ?_ ⟨[], rfl, rfl, fun x h => h, hno⟩ ?_ ?_ ?_
        · simp (implicitDefEqProofs := false) (dsimp := false) only [slots, ↓eval_tmp, List.getD_cons_zero, List.getD_cons_succ, List.set_cons_zero, List.set_cons_succ, Nat.reduceAdd, Nat.reduceSub, Nat.reduceMul, List.replicate, evK_go, reduceIte, Nat.reduceEqDiff, Nat.reduceLT, List.foldl_cons, List.foldl_nil]
        · refine TmLe.wkn ?_
          simp (implicitDefEqProofs := false) (dsimp := false) only [slots, tmLe_nil, tmLe_j, tmLe_s, List.set_cons_zero, List.set_cons_succ, Nat.reduceAdd, Nat.reduceSub, Nat.reduceMul, List.replicate, evK_go, reduceIte, Nat.reduceEqDiff, Nat.reduceLT, List.foldl_cons, List.foldl_nil]
        · rintro ys x ⟨may', no', most'⟩ hpx ⟨P, rfl, hst, hsub, hno'⟩
          obtain ⟨P', c, hP, rfl, hcc⟩ := prefix_map hpx
          obtain rfl : P = P' := ofNat_inj hP
          have hcm := (pts_mem _ _).1 (hcc.subset (by simp : c ∈ P ++ [c]))
          have hcn : c < nb.length := low_lt hmay hcm.2
          simp only at hsub hno'
          have hm64' : may' < 2 ^ 64 := Nat.lt_of_lt_of_le (bitsN (n := nb.length) fun i hi => low_lt hmay (hsub i hi)) (Nat.pow_le_pow_right (by omega) (by omega))
          have hct := hnt _ (getD_mem hcn)
          have hbit := hirr c
          have hjs : (P ++ [c]).foldl (whJ (whF nb k) nb has) (may, no, most) = whJ (whF nb k) nb has (may', no', most') c := by rw [List.foldl_append, ← hst]; rfl
          have hand1 : may' &&& nb.getD c default < 2 ^ nb.length := bitsN fun i hi => by
            rw [Nat.testBit_and, Bool.and_eq_true] at hi
            exact low_lt hmay (hsub i hi.1)
          have hand2 : no' &&& nb.getD c default < 2 ^ 64 := Nat.lt_of_le_of_lt Nat.and_le_left hno'
          have hor1 : has ||| 2 ^ c < 2 ^ 64 := Nat.or_lt_two_pow hhas (Nat.pow_lt_pow_right (by omega) hcm.1)
          have hor2 : no' ||| 2 ^ c < 2 ^ 64 := Nat.or_lt_two_pow hno' (Nat.pow_lt_pow_right (by omega) hcm.1)
          have hfew : (pts (may' &&& nb.getD c default)).length < k := by
            have := pig (L := c :: pts (may' &&& nb.getD c default)) (M := pts may) (by
              rw [List.nodup_cons]
              refine ⟨fun h => ?_, pts_nodup _⟩
              have := ((pts_mem _ _).1 h).2
              rw [Nat.testBit_and, Bool.and_eq_true, hbit] at this
              cases this.2) (fun x hx => by
              rcases List.mem_cons.1 hx with rfl | hx
              · exact (pts_mem _ _).2 hcm
              · obtain ⟨a1, a2⟩ := (pts_mem _ _).1 hx
                rw [Nat.testBit_and, Bool.and_eq_true] at a2
                exact (pts_mem _ _).2 ⟨a1, hsub x a2.1⟩)
            rw [List.length_cons] at this
            omega
          have hrest' : ∀ x ∈ rest ++ [V.d (.l (nb.map U)), .d (U has), .d (U may'), .d (U no'), .fp (.func 33) [0]], ∀ y ∈ x.cells, y.below ((rest ++ [V.d (.l (nb.map U)), .d (U has), .d (U may'), .d (U no'), .fp (.func 33) [0]]).length + 1) := by
            intro x hx y hy
            rcases List.mem_append.1 hx with hx | hx
            · have h1 := hrest x hx y hy
              rw [List.length_append]
              cases y with
              | p b sub => show _ < _; have h1 : b < rest.length + 1 := h1; omega
              | fp fn ps => intro b hb; have h1 : b < rest.length + 1 := h1 b hb; omega
              | _ => trivial
            · simp (implicitDefEqProofs := false) (dsimp := false) only [List.mem_cons, List.not_mem_nil, or_false] at hx
              rcases hx with rfl | rfl | rfl | rfl | rfl
              · simp [V.cells] at hy; subst hy; trivial
              · simp [V.cells] at hy; subst hy; trivial
              · simp [V.cells] at hy; subst hy; trivial
              · simp [V.cells] at hy; subst hy; trivial
              · simp [V.cells] at hy; subst hy
                intro b hb
                simp at hb; omega
          simp (implicitDefEqProofs := false) (dsimp := false) only [slots, ↓nthK_H, ↓aw_seq, ↓aw_block, ↓aw_reg, ↓aw_draw, ↓ops_nil, ↓ops_cons, ↓eval_tmp, ↓put_some, ↓ev_load, ↓ldK_p, ↓op_assign, ↓draw_H, ↓h_cons, ↓ldH_n, ↓q_load, ↓il_load, ↓Qn_n, ↓ty45, List.getD_cons_zero, List.getD_cons_succ, List.set_cons_zero, List.set_cons_succ, List.cons_append, List.nil_append, List.length_cons, List.length_nil, Nat.reduceAdd, Nat.reduceSub, Nat.reduceMul, Nat.zero_add, List.replicate, evK_go, reduceIte, Nat.reduceEqDiff, Nat.reduceLT, Int.zero_add, List.foldl_cons, List.foldl_nil]
          refine OrH.r (draw_n 17 follows_mixed (by kernel_rfl) ?_)
          simp (implicitDefEqProofs := false) (dsimp := false) only [hn_n, hn_z, hcm.1, hhas, hcn, hct, hm64', hno', with_callQ, ty59, end0, end1, end2, end3, end4, cells_fp, ↓atK_H, ↓atH_map, ↓nthK_H, ↓nthH_zero, ↓ops_cons, ↓eval_tmp, ↓eval_func, ↓put_some, ↓iK_i, ↓ev_move, ↓ev_load, ↓ev_bin, ↓ev_ia, ↓binE_i, ↓bi_and, ↓ldK_q, ↓ldK_p, ↓iaK_l, ↓op_call, isD_d, isD_fp, ↓fnK_f, ↓call_H, ↓callK_H, ↓callKQ_H, ↓allT_nil, ↓allT_cons, ↓td_d, ↓boxK_d, ↓td_fp, ↓bq_nil, ↓bq_cons, ↓q_call, ↓q_move, ↓q_load, ↓q_bin, ↓q_ia, ↓cells_c, ↓vcells_c, ↓vcells_l, ↓hd_cons, ↓ty45, ↓sl45, ↓ty49, List.getD_cons_zero, List.getD_cons_succ, List.set_cons_zero, List.set_cons_succ, List.append_nil, List.length_cons, List.length_nil, List.all_cons, List.all_nil, Bool.and_true, Bool.true_and, Bool.and_self, Bool.and_false, Bool.true_or, Nat.reduceAdd, Nat.reduceSub, Nat.reduceMul, Nat.zero_add, Int.toNat_natCast, evK_go, reduceIte, Nat.reduceEqDiff, Nat.reduceLT, and_self, true_and, and_true, Int.zero_add, List.drop_zero, Int.natCast_nonneg]
          refine OrH.l (OrH.l (OrH.r (callM3 (fun gh => ih (has ||| 2 ^ c) (may' &&& nb.getD c default) (no' &&& nb.getD c default) most' (rest ++ [.d (.l (nb.map U)), .d (U has), .d (U may'), .d (U no'), .fp (.func 33) [0]]) rw gh hfew hor1 hand1 hand2 hrest') rfl rfl rfl rfl rfl ?_)))
          rintro d bx' rw' gh' ⟨rfl, rfl, rfl, rfl⟩
          refine ⟨rfl, ?_⟩
          have hval : whF nb k (has ||| 2 ^ c) (may' &&& nb.getD c default) (no' &&& nb.getD c default) most' = (whJ (whF nb k) nb has (may', no', most') c).2.2 := rfl
          rw [hval]
          simp (implicitDefEqProofs := false) (dsimp := false) only [hcm.1, hm64', hno', with_callQ, without_callQ, end2, end3, endS2, endS3, QB_n, backN_mk, ↓nthK_H, ↓nthH_zero, ↓aw_draw, ↓Qseq_n, ↓Qblk_n, ↓ops_nil, ↓ops_cons, ↓eval_tmp, ↓eval_func, ↓put_some, ↓put_none, ↓ev_move, ↓ev_load, ↓ldK_p, ↓op_store, isD_d, ↓fnK_f, ↓callKQ_H, ↓allT_nil, ↓allT_cons, ↓td_d, ↓draw_H, ↓h_cons, ↓ldH_t, ↓ldH_n, ↓q_call, ↓q_move, ↓q_load, ↓il_move, ↓il_load, ↓il_call, ↓il_store, ↓setBox_mk, ↓st_tm, ↓st_bx, ↓st_gh, ↓vcells_c, ↓one_i, ↓vone_d, ↓st_p, ↓ty49, List.getD_cons_zero, List.getD_cons_succ, List.set_cons_zero, List.set_cons_succ, List.cons_append, List.nil_append, List.append_nil, List.length_cons, List.length_nil, List.all_cons, List.all_nil, Bool.true_and, Bool.and_self, Bool.true_or, Nat.reduceAdd, Nat.reduceSub, Nat.reduceMul, Nat.zero_add, evK_go, reduceIte, Nat.reduceEqDiff, Nat.reduceLT, and_self, true_and, Int.zero_add, List.drop_zero, List.take_succ_cons, List.drop_succ_cons, List.take_zero]
          refine OrH.l ⟨DrawH.of follows_mixed (by kernel_rfl), OrH.l (OrH.l (OrH.l (OrH.l ⟨whJ (whF nb k) nb has (may', no', most') c, ⟨P ++ [c], by simp, hjs.symm, fun x hx => ?_, hor2⟩, ?_⟩)))⟩
          · have hx : (dif may' (2 ^ c)).testBit x = true := hx
            rw [dif_bit, Bool.and_eq_true] at hx
            exact hsub x hx.1
          · exact Wkn.refl _
        · rintro ⟨may', no', most'⟩ ⟨P, hP, hst, hsub, hno'⟩
          obtain rfl : pts may = P := ofNat_inj hP
          have hval : most' = ((pts may).foldl (whJ (whF nb k) nb has) (may, no, most)).2.2 := by rw [← hst]
          simp (implicitDefEqProofs := false) (dsimp := false) only [slots, ↓Qblk_n, List.set_cons_zero, List.set_cons_succ, Nat.reduceAdd, Nat.reduceSub, Nat.reduceMul, List.replicate, evK_go, reduceIte, Nat.reduceEqDiff, Nat.reduceLT, List.foldl_cons, List.foldl_nil]
          exact ⟨rfl, rfl, ⟨_, _, _, _, _, by rw [hval]⟩, rfl⟩
end Go.Proofs

namespace Go.Proofs
open Go.Aw
set_option linter.unusedSimpArgs false
set_option maxRecDepth 10000
def apI (n : Int) (l : List (Int × Int)) : Nat := if chk n l = 0 then whF (apN n.toNat (outS n.toNat (symL (natL l)))) (n.toNat + 1) 0 (2 ^ n.toNat - 1) 0 0 else 0
theorem mix0 (f : Nat → Nat) (S : List Nat) : mixF f (fun j => S.getD j default) S.length 0 = S := by
  have h : ((List.range S.length).map fun j => if j < 0 then f j else S.getD j default) = S := by
    refine List.ext_getElem (by simp) fun i h1 h2 => ?_
    rw [List.getElem_map, List.getElem_range, if_neg (by omega), List.getD_eq_getElem?_getD, List.getElem?_eq_getElem h2]; rfl
  exact h
theorem mix_get (f g : Nat → Nat) {m k : Nat} (h : k < m) : (mixF f g m k).getD k default = g k := by
  unfold mixF
  rw [range_getD _ h, if_neg (by omega)]
theorem capart_spec (n : Int) (l : List (Int × Int)) (hpre : l.length < 2 ^ 62) : FnD Try.prog 13 [I .i64 n, .l (l.map lnD)] (.t [I .i64 (apI n l : Nat), erD (chk n l)]) := by
  refine FnD.go Try.func13 rfl rfl Try.results13 Try.ntmps13 ?_
  simp (implicitDefEqProofs := false) (dsimp := false) only [↓aw_seq, ↓aw_reg, ↓Qseq_n, ↓ops_nil, ↓ops_cons, ↓eval_tmp, ↓eval_int, ↓eval_func, ↓put_some, ↓op_move, ↓op_assign, ↓op_call, isD_d, ↓fnK_f, ↓call_H, ↓callK_H, ↓allT_nil, ↓allT_cons, ↓td_d, List.getD_cons_zero, List.getD_cons_succ, List.set_cons_zero, List.set_cons_succ, List.cons_append, List.nil_append, List.append_nil, List.map_cons, List.map_nil, List.length_cons, List.length_nil, List.all_cons, List.all_nil, Bool.and_self, Nat.reduceAdd, Nat.reduceSub, Nat.reduceMul, Nat.zero_add, List.replicate, evK_go, reduceIte, Nat.reduceEqDiff, Nat.reduceLT, and_self, Int.zero_add]
  simp (implicitDefEqProofs := false) (dsimp := false) only [gcheck_call, hpre, eval_nilI, ↓er_neq, er_flat, ↓cdK_not, ↓aw_cond, ↓aw_seq, ↓aw_reg, ↓Qseq_n, ↓ops_nil, ↓ops_cons, ↓eval_tmp, ↓put_some, ↓bK_b, ↓op_move, ↓op_assign, ↓op_bin, List.getD_cons_zero, List.getD_cons_succ, List.set_cons_zero, List.set_cons_succ, Bool.true_and, Bool.or_true, Nat.reduceAdd, Nat.reduceSub, Nat.reduceMul, evK_go, reduceIte, Nat.reduceEqDiff, Nat.reduceLT, true_and]
  (repeat refine OrH.l ?_)
  refine cdK_dec (fun hc => ?_) (fun hc => ?_)
  rotate_left
  · have e : apI n l = 0 := if_neg hc
    simp (implicitDefEqProofs := false) (dsimp := false) only [e, ↓aw_seq, ↓aw_ret, ↓aw_reg, ↓Qseq_n, ↓Qseq_r, ↓Qret_r, ↓ops_nil, ↓ops_cons, ↓eval_tmp, ↓eval_int, ↓put_some, ↓op_move, ↓op_assign, ↓td_d, ↓ret_2, List.getD_cons_zero, List.getD_cons_succ, List.set_cons_zero, List.set_cons_succ, Nat.reduceAdd, Nat.reduceSub, Nat.reduceMul, evK_go, reduceIte, Nat.reduceEqDiff, Nat.reduceLT, Int.cast_ofNat_Int]
    skip
  have ok := chk_ok hc
  rw [show apI n l = whF (apN n.toNat (outS n.toNat (symL (natL l)))) (n.toNat + 1) 0 (2 ^ n.toNat - 1) 0 0 from if_pos hc, lnD_nat ok.rng, hc]
  have hcr := ok.cr
  have h8 := ok.hi
  have e0 := ok.n0
  have hlo := ok.lo
  clear ok hc hpre
  generalize n.toNat = m at *
  subst e0
  generalize natL l = L at *
  have hsg := symL_good hcr.2.2
  have hSl := outS_len m (symL L)
  have hSt := outS_lt' (n := m) (by omega) hsg
  have hm64 : m < 64 := by omega
  have hw64 : 2 ^ m - 1 < 2 ^ 64 := by
    have : 2 ^ m ≤ 2 ^ 64 := Nat.pow_le_pow_right (by omega) (by omega)
    omega
  have hirr : ∀ i, ((apN m (outS m (symL L))).getD i default).testBit i = false := fun i => by
    rw [← Bool.not_eq_true]
    intro h
    exact ((apN_bit i i).1 h).2.2.1 rfl
  simp (implicitDefEqProofs := false) (dsimp := false) only [beside_call, hcr, rflat_U, ↓optK_some, ↓rwK_mk_, ↓aw_seq, ↓aw_block, ↓aw_skip, ↓aw_loop, ↓aw_reg, ↓Qseq_n, ↓ops_nil, ↓ops_cons, ↓eval_tmp, ↓eval_int, ↓eval_func, ↓put_some, ↓lenK_o, ↓op_move, ↓op_assign, ↓op_len, ↓op_call, isD_d, ↓fnK_f, ↓call_H, ↓callK_H, ↓allT_nil, ↓allT_cons, ↓td_d, ↓addRow_mk, ↓st_rw, ↓sl45, List.getD_cons_zero, List.getD_cons_succ, List.set_cons_zero, List.set_cons_succ, List.nil_append, List.append_nil, List.length_nil, List.length_map, List.all_cons, List.all_nil, Bool.true_and, Bool.and_self, Bool.or_true, Nat.reduceAdd, Nat.reduceSub, Nat.reduceMul, evK_go, reduceIte, decide_true, Bool.not_true, Nat.reduceEqDiff, Nat.reduceLT, and_self, true_and]
  (repeat refine OrH.l ?_)
  generalize outS m (symL L) = S at *
  obtain ⟨F, hF⟩ : ∃ F : Nat → Nat, F = fun i => dif (dif (2 ^ m - 1) (2 ^ i)) (S.getD i default) := ⟨_, rfl⟩
  have hA : apN m S = mixF F (fun j => S.getD j default) m m := by rw [mixF_all, hF]; rfl
  have hS0 : S = mixF F (fun j => S.getD j default) m 0 := by rw [← hSl]; exact (mix0 F S).symm
  have hAl : (apN m S).length = m := by simp [apN]
  have hdl : ∀ i, dif (2 ^ m - 1) (2 ^ i) < 2 ^ 64 := fun i => dif_lt hw64
  have hAt : ∀ x ∈ apN m S, x < 2 ^ 64 := fun x hx => by
    obtain ⟨i, _, rfl⟩ := List.mem_map.1 hx
    exact dif_lt (hdl i)
  refine loopW (fun k : Nat => { tm := slots 43 [(0, .d (I .i64 (m : Int))), (7, .o 0 0 m), (20, .d (I .i64 (m : Int))), (21, .d (I .i64 k))], bx := [], rw := [some ⟨1, (mixF F (fun j => S.getD j default) m k).map U⟩] })
    (fun k => k ≤ m) (fun k => m - k) 0 (by simp) ?_ ?_
  · refine Wkn.of [] [some 0] ?_
    simp (implicitDefEqProofs := false) (dsimp := false) only [← hS0, hSl, List.getD_cons_zero, List.set_cons_zero, List.set_cons_succ, Bool.and_self, Nat.reduceAdd, Nat.reduceSub, Nat.reduceMul, List.replicate, evK_go, reduceIte, Nat.reduceEqDiff, Nat.reduceLT, and_self, List.foldl_cons, List.foldl_nil, Int.cast_ofNat_Int, slots, wkL_nil, wkL_cons, wkB_nil, wkR_nil, wkR_some, wkV_j, wkV_d, wkV_o, frz_d, oK_zs, reduceCtorEq]
  · intro k hk
    have hml := mixF_len F (fun j => S.getD j default) m k
    simp (implicitDefEqProofs := false) (dsimp := false) only [slots, ↓aw_cond, ↓aw_seq, ↓aw_reg, ↓Qseq_n, ↓ops_nil, ↓ops_cons, ↓eval_tmp, ↓put_some, ↓bK_b, ↓binE_i, ↓bi_lss, ↓op_bin, List.getD_cons_zero, List.getD_cons_succ, List.set_cons_zero, List.set_cons_succ, Nat.reduceAdd, Nat.reduceSub, Nat.reduceMul, List.replicate, evK_go, reduceIte, Nat.reduceEqDiff, Nat.reduceLT, List.foldl_cons, List.foldl_nil, Int.ofNat_lt]
    refine cdK_dec (fun h => ?_) (fun h => ?_)
    · have hk64 : k < 64 := by omega
      have hms := mixF_set F (fun j => S.getD j default) h
      have hmg := mix_get F (fun j => S.getD j default) h
      have hkS : k < S.length := by omega
      have hst := hSt _ (getD_mem hkS)
      have hdk := hdl k
      have hFk : F k = dif (dif (2 ^ m - 1) (2 ^ k)) (S.getD k default) := by rw [hF]
      simp (implicitDefEqProofs := false) (dsimp := false) only [h, hml, hmg, below_callQ, hm64, without_callQ, hw64, hk64, hst, hdk, ↓optK_some, ↓rwK_mk_, ↓atK_H, ↓atH_map, ↓nthK_H, ↓nthH_zero, ↓aw_seq, ↓aw_block, ↓aw_skip, ↓aw_reg, ↓aw_draw, ↓Qseq_n, ↓Qblk_n, ↓ops_nil, ↓ops_cons, ↓eval_tmp, ↓eval_int, ↓eval_func, ↓put_some, ↓put_none, ↓iK_i, ↓dK_d, ↓ev_move, ↓ev_load, ↓ev_bin, ↓ev_ia, ↓binE_i, ↓bi_add, ↓bi_andNot, ↓in_i64, ↓ldK_e, ↓iaK_o, ↓op_move, ↓op_assign, ↓op_bin, ↓op_store, isD_d, ↓fnK_f, ↓callKQ_H, ↓allT_nil, ↓allT_cons, ↓td_d, ↓draw_H, ↓h_cons, ↓ldH_t, ↓ldH_n, ↓q_call, ↓q_move, ↓q_load, ↓q_bin, ↓q_ia, ↓il_move, ↓il_load, ↓il_bin, ↓il_ia, ↓il_call, ↓il_store, ↓setRow_mk, ↓row_sz, ↓row_xs, ↓cells_c, ↓one_i, ↓st_e, ↓sl45, ↓ty49, List.getD_cons_zero, List.getD_cons_succ, List.set_cons_zero, List.set_cons_succ, List.append_nil, List.length_cons, List.length_nil, List.all_cons, List.all_nil, Bool.true_and, Bool.and_self, Bool.true_or, Nat.reduceAdd, Nat.reduceSub, Nat.reduceMul, Nat.zero_add, Int.toNat_natCast, evK_go, reduceIte, decide_true, Nat.reduceEqDiff, Nat.reduceLT, and_self, true_and, Int.zero_add, Int.ofNat_lt, Int.natCast_nonneg]
      refine OrH.l ⟨DrawH.of follows_mixed (by kernel_rfl), OrH.l (OrH.l (OrH.l (OrH.l ⟨by omega, k + 1, by omega, by omega, ?_⟩)))⟩
      refine Wkn.of [] [some 0] ?_
      simp (implicitDefEqProofs := false) (dsimp := false) only [← hms, hFk, List.map_set, List.getD_cons_zero, List.set_cons_zero, List.set_cons_succ, Bool.and_self, Nat.reduceAdd, Nat.reduceSub, Nat.reduceMul, List.replicate, evK_go, reduceIte, Nat.reduceEqDiff, Nat.reduceLT, and_self, List.foldl_cons, List.foldl_nil, Int.cast_ofNat_Int, Int.natCast_add, slots, wkL_nil, wkL_cons, wkB_nil, wkR_nil, wkR_some, wkV_j, wkV_d, wkV_o, frz_d, oK_zs, reduceCtorEq]
    · obtain rfl : k = m := by omega
      rw [← hA]
      generalize apN k S = A at *
      simp (implicitDefEqProofs := false) (dsimp := false) only [below_call, hm64, ↓optK_some, ↓rwK_mk_, ↓aw_seq, ↓aw_exit, ↓aw_reg, ↓Qseq_n, ↓Qseq_x, ↓Qblk_x, ↓ops_nil, ↓ops_cons, ↓eval_tmp, ↓eval_int, ↓eval_func, ↓put_some, ↓put_none, ↓capsK_nil, ↓capsK_cons, ↓op_move, ↓op_func, ↓op_call, ↓op_alloc, ↓op_store, isD_d, isD_o, isD_fp, ↓fnK_f, ↓call_H, ↓callK_H, ↓allT_nil, ↓allT_cons, ↓td_d, ↓td_o, ↓boxK_d, ↓td_fp, ↓bq_nil, ↓bq_cons, ↓addBox_mk, ↓setBox_mk, ↓st_bx, ↓row_xs, ↓cells_c, ↓vcells_c, ↓one_i, ↓vone_d, constV_i, ↓st_p, ↓ty3, ↓zb3, List.getD_cons_zero, List.getD_cons_succ, List.set_cons_zero, List.set_cons_succ, List.nil_append, List.append_nil, List.map_cons, List.map_nil, List.length_cons, List.length_nil, List.all_cons, List.all_nil, Bool.and_true, Bool.true_and, Bool.and_self, Bool.and_false, Bool.true_or, Nat.reduceAdd, Nat.reduceSub, Nat.reduceMul, Nat.zero_add, evK_go, reduceIte, decide_false, Nat.reduceEqDiff, Nat.reduceLT, and_self, true_and, and_true, Nat.lt_irrefl, Int.zero_add, List.drop_zero]
      refine OrH.l (OrH.l (OrH.r (Loud.frz { tm := slots 43 [(9, .p 0 0), (37, .d (.l (A.map U))), (38, .d (I .i64 (k : Int))), (39, .d (U (2 ^ k - 1))), (40, .fp (.func 33) [0])], bx := [.d (I .i64 ((0 : Nat) : Int))], rw := [] } (Wkn.of [0] [] ?_) ?_)))
      · have e1 : List.take k (List.map U A) = List.map U A := List.take_of_length_le (by simp [hAl])
        simp (implicitDefEqProofs := false) (dsimp := false) only [e1, ↓optK_some, ↓row_xs, ↓vcells_c, List.getD_cons_zero, List.set_cons_zero, List.set_cons_succ, List.map_cons, List.map_nil, List.length_cons, List.length_nil, Bool.and_true, Bool.true_and, Bool.and_self, Bool.or_false, Nat.reduceAdd, Nat.reduceSub, Nat.reduceMul, Nat.zero_add, List.replicate, evK_go, reduceIte, Nat.reduceEqDiff, Nat.reduceLT, and_self, true_and, and_true, not_false_eq_true, Int.zero_add, List.drop_zero, List.foldl_cons, List.foldl_nil, Int.cast_ofNat_Int, slots, wkL_nil, wkL_cons, wkB_nil, wkB_cons, wkR_nil, wkV_j, wkV_d, wkV_p, wkV_fp, frz_d, frz_o, pK_z, dl_eq, reduceCtorEq, List.mem_cons, List.not_mem_nil, or_false]
        intro b hb; omega
      · simp (implicitDefEqProofs := false) (dsimp := false) only [slots, ↓eval_tmp, ↓eval_int, ↓eval_func, isD_d, isD_fp, ↓fnK_f, ↓call_H, ↓callK_H, ↓allT_nil, ↓allT_cons, ↓td_d, ↓boxK_d, ↓td_fp, ↓bq_nil, ↓bq_cons, ↓cells_c, List.getD_cons_zero, List.getD_cons_succ, List.set_cons_zero, List.set_cons_succ, List.append_nil, List.all_cons, List.all_nil, Bool.and_true, Bool.and_false, Nat.reduceAdd, Nat.reduceSub, Nat.reduceMul, List.replicate, evK_go, reduceIte, Nat.reduceEqDiff, Nat.reduceLT, and_true, List.foldl_cons, List.foldl_nil, Int.cast_ofNat_Int]
        have hmayA : 2 ^ k - 1 < 2 ^ A.length := by rw [hAl]; have := Nat.one_le_two_pow (n := k); omega
        have hpl : (pts (2 ^ k - 1)).length < k + 1 := by
          have := pig (L := pts (2 ^ k - 1)) (M := List.range k) (pts_nodup _) (fun x hx => List.mem_range.2 ((below_bit k x).1 ((pts_mem _ _).1 hx).2))
          rw [List.length_range] at this
          omega
        refine OrH.r (callM3 (fun gh => whole_spec A (by omega) hAt hirr (k + 1) 0 (2 ^ k - 1) 0 0 [] [] gh hpl (by decide) hmayA (by decide) (by simp)) rfl rfl rfl rfl rfl ?_)
        rintro d bx' rw' gh' ⟨rfl, rfl, rfl, rfl⟩
        refine ⟨rfl, ?_⟩
        generalize whF A (k + 1) 0 (2 ^ k - 1) 0 0 = w at *
        simp (implicitDefEqProofs := false) (dsimp := false) only [List.append_nil, slots, erD_0, eval_nilI, ↓nthK_H, ↓nthH_zero, ↓aw_seq, ↓aw_ret, ↓aw_reg, ↓Qseq_n, ↓Qret_r, ↓ops_nil, ↓ops_cons, ↓eval_tmp, ↓put_some, ↓ldK_p, ↓op_assign, ↓op_load, ↓td_d, ↓ret_2, ↓st_tm, ↓st_gh, ↓vcells_c, ↓ty3, List.getD_cons_zero, List.getD_cons_succ, List.set_cons_zero, List.set_cons_succ, List.append_nil, List.length_cons, List.length_nil, Nat.reduceAdd, Nat.reduceSub, Nat.reduceMul, Nat.zero_add, List.replicate, evK_go, reduceIte, Nat.reduceEqDiff, Nat.reduceLT, Int.zero_add, List.take_succ_cons, List.drop_succ_cons, List.take_nil, List.drop_nil, List.foldl_cons, List.foldl_nil]
        skip
theorem capart_call (n : Int) (l : List (Int × Int)) (pure : Bool) (σ : St) (dst : Option Tmp) (K : St → Prop) : CallH Try.prog 13 [I .i64 n, .l (l.map lnD)] pure σ dst (.mk : Hid K) = OrH ((l.length < 2 ^ 62) ∧ (pure || D.flat (.t [I .i64 (apI n l : Nat), erD (chk n l)])) = true ∧ evK (σ.put dst (.d (.t [I .i64 (apI n l : Nat), erD (chk n l)]))) (.mk : Hid K)) (.mk : Hid (CallH Try.prog 13 [I .i64 n, .l (l.map lnD)] pure σ dst (.mk : Hid K))) := CallH.eq (capart_spec n l) pure σ dst K
end Go.Proofs

namespace Go.Proofs
open Go.Aw
set_option linter.unusedSimpArgs false
set_option maxRecDepth 10000
def kuhnK (left right : Nat) (l : List (Nat × Nat)) (k : Nat) : List Int := (List.range k).foldl (kuhnI (outS (max left 1) l) right) (List.replicate right (-1))
theorem kuhnK_ok {left right : Nat} {l : List (Nat × Nat)} (hl : Sides left right l) (hr : right ≤ 64) (k : Nat) : HasOK right left l (kuhnK left right l k) := by
  have : ∀ k, ∃ F D, KI left right l k (kuhnK left right l k) F D := by
    intro k
    induction k with
    | zero =>
      refine ⟨fun _ => False, fun _ => False, ⟨⟨by simp [kuhnK], fun j hj => .inl ?_⟩, fun y => ⟨fun h => by omega, fun _ => ?_⟩, fun f hf => hf.elim, fun f hf => hf.elim, fun j hj => hj.elim⟩⟩
      · show (List.replicate right (-1 : Int)).getD j default = -1
        rw [List.getD_eq_getElem?_getD, List.getElem?_replicate, if_pos hj]; rfl
      · show (List.replicate right (-1 : Int)).count (y : Int) = 0
        rw [List.count_eq_zero]
        intro h
        have := (List.mem_replicate.1 h).2
        omega
    | succ k ih =>
      obtain ⟨F, D, h⟩ := ih
      unfold kuhnK
      rw [range_foldl]
      exact h.step hl hr (outS_sides hl hr)
  obtain ⟨_, _, h⟩ := this k
  exact h.ok
theorem kuhnK_succ (left right : Nat) (l : List (Nat × Nat)) (k : Nat) : kuhnK left right l (k + 1) = (tryF (outS (max left 1) l) (right + 1) k ⟨kuhnK left right l k, 0⟩).2.has := range_foldl _ _ _
def negI (right k : Nat) : List Int := List.replicate k (-1 : Int) ++ List.replicate (right - k) 0
theorem negI_len {right k : Nat} (h : k ≤ right) : (negI right k).length = right := by simp [negI]; omega
theorem negI_set {right k : Nat} (h : k < right) : (negI right k).set k (-1) = negI right (k + 1) := by
  unfold negI
  rw [List.set_append_right _ _ (by simp), List.length_replicate, Nat.sub_self, show right - k = (right - (k + 1)) + 1 by omega, List.replicate_succ, List.set_cons_zero, List.replicate_succ', List.append_assoc]; rfl
theorem negI_end (right : Nat) : negI right right = List.replicate right (-1) := by simp [negI]
theorem negI_zero (right : Nat) : (negI right 0).map (I .i64) = List.replicate right (I .i64 0) := by simp [negI]
theorem pairs_spec (left right : Nat) (l : List (Nat × Nat)) (hpre : left ≤ 8 ∧ right ≤ 8 ∧ l.length < 2 ^ 62 ∧ Sides left right l) : FnR Try.prog 29 [I .i64 (left : Int), I .i64 (right : Int), .l (l.map lnN)] 1 ((kuhn left right l).map (I .i64)) := by
  obtain ⟨hl8, hr8, hl62, hs⟩ := hpre
  have hout : max left 1 ≤ 64 ∧ l.length < 2 ^ 62 ∧ ∀ p ∈ l, p.1 < max left 1 ∧ p.2 < 64 := ⟨by omega, hl62, fun p hp => by have := hs p hp; omega⟩
  have hg := outS_sides hs (by omega : right ≤ 64)
  have hlt : ∀ x ∈ outS (max left 1) l, x < 2 ^ 64 := outS_lt _ _ fun p hp => by have := hs p hp; omega
  have hmax : (if 1 > (left : Int) then (1 : Int) else (left : Int)) = ((max left 1 : Nat) : Int) := by split <;> omega
  have htry := try_spec hr8 hl8 hg hlt hs
  refine FnR.go Try.func29 rfl rfl Try.results29 Try.ntmps29 ?_
  simp (implicitDefEqProofs := false) (dsimp := false) only [↓aw_seq, ↓aw_reg, ↓Qseq_n, ↓ops_nil, ↓ops_cons, ↓eval_tmp, ↓eval_int, ↓eval_nil, ↓eval_func, ↓put_some, ↓iK_i, ↓op_move, ↓op_assign, ↓op_max, ↓op_call, isD_d, ↓fnK_f, ↓call_H, ↓callK_H, ↓allT_nil, ↓allT_cons, ↓td_d, List.getD_cons_zero, List.getD_cons_succ, List.set_cons_zero, List.set_cons_succ, List.cons_append, List.nil_append, List.append_nil, List.map_cons, List.map_nil, List.length_cons, List.length_nil, List.all_cons, List.all_nil, Bool.true_and, Bool.and_self, Nat.reduceAdd, Nat.reduceSub, Nat.reduceMul, Nat.zero_add, List.replicate, evK_go, reduceIte, Nat.reduceEqDiff, Nat.reduceLT, and_self, true_and, Int.zero_add]
  simp (implicitDefEqProofs := false) (dsimp := false) only [hmax, out_callD, hout, ↓optK_some, ↓rwK_mk_, ↓nthK_H, ↓nthH_zero, ↓aw_seq, ↓aw_block, ↓aw_loop, ↓aw_reg, ↓Qseq_n, ↓ops_nil, ↓ops_cons, ↓eval_tmp, ↓eval_int, ↓put_some, ↓put_none, ↓iK_i, ↓dK_d, ↓lenK_o, ↓ldK_p, ↓op_move, ↓op_load, ↓op_len, ↓op_alloc, ↓op_store, ↓op_make, ↓addBox_mk, ↓addRow_mk, ↓setBox_mk, ↓st_bx, ↓st_rw, ↓cells_c, ↓vcells_l, ↓vcells_nl, ↓vcells_o, ↓one_i, ↓one_l, ↓vone_d, ↓vone_o, constV_i, constV_n, ↓st_p, ↓mk_, ↓vsz_int, ↓ty3, ↓zb3, ↓ty29, ↓sl29, ↓zb29, ↓ty45, ↓zb45, List.getD_cons_zero, List.getD_cons_succ, List.set_cons_zero, List.set_cons_succ, List.cons_append, List.nil_append, List.length_cons, List.length_nil, List.all_cons, List.all_nil, Bool.and_true, Bool.true_and, Bool.and_self, Bool.true_or, Nat.reduceAdd, Nat.reduceSub, Nat.reduceMul, Nat.zero_add, Int.toNat_natCast, evK_go, reduceIte, Nat.reduceEqDiff, Nat.reduceLT, and_self, true_and, and_true, Int.zero_add, Int.natCast_nonneg]
  (repeat refine OrH.l ?_)
  refine ⟨hout.2.2, ?_⟩
  (repeat refine OrH.l ?_)
  refine ⟨⟨by omega, by decide⟩, ?_⟩
  refine loopW (fun k : Nat => { tm := slots 38 [(0, .d (I .i64 (left : Int))), (7, .p 0 0), (8, .p 1 0), (20, .d (I .i64 (right : Int))), (21, .d (I .i64 k))], bx := [.d (.l ((outS (max left 1) l).map U)), .o 0 0 right], rw := [some ⟨1, (negI right k).map (I .i64)⟩] })
    (fun k => k ≤ right) (fun k => right - k) 0 (by simp) ?_ ?_
  · refine Wkn.of [0, 1] [some 0] ?_
    simp (implicitDefEqProofs := false) (dsimp := false) only [negI_zero, ↓vcells_l, ↓vcells_o, List.getD_cons_zero, List.getD_cons_succ, List.set_cons_zero, List.set_cons_succ, List.length_cons, List.length_nil, Bool.and_self, Nat.reduceAdd, Nat.reduceSub, Nat.reduceMul, Nat.zero_add, List.replicate, evK_go, reduceIte, Nat.reduceEqDiff, Nat.reduceLT, and_self, Int.zero_add, List.foldl_cons, List.foldl_nil, Int.cast_ofNat_Int, slots, wkL_nil, wkL_cons, wkB_nil, wkB_cons, wkR_nil, wkR_some, wkV_j, wkV_d, wkV_o, wkV_p, frz_d, oK_zs, pK_z, pK_s, reduceCtorEq]
  · intro k hk
    simp (implicitDefEqProofs := false) (dsimp := false) only [slots, ↓aw_cond, ↓aw_seq, ↓aw_reg, ↓Qseq_n, ↓ops_nil, ↓ops_cons, ↓eval_tmp, ↓put_some, ↓bK_b, ↓binE_i, ↓bi_lss, ↓op_bin, List.getD_cons_zero, List.getD_cons_succ, List.set_cons_zero, List.set_cons_succ, Nat.reduceAdd, Nat.reduceSub, Nat.reduceMul, List.replicate, evK_go, reduceIte, Nat.reduceEqDiff, Nat.reduceLT, List.foldl_cons, List.foldl_nil, Int.ofNat_lt]
    refine cdK_dec (fun h => ?_) (fun h => ?_)
    · have hlk := negI_len hk
      have hset := negI_set h
      simp (implicitDefEqProofs := false) (dsimp := false) only [h, ↓optK_some, ↓rwK_mk_, ↓nthK_H, ↓nthH_zero, ↓aw_seq, ↓aw_block, ↓aw_skip, ↓aw_reg, ↓Qseq_n, ↓Qblk_n, ↓ops_nil, ↓ops_cons, ↓eval_tmp, ↓eval_int, ↓put_some, ↓put_none, ↓iK_i, ↓dK_d, ↓binE_i, ↓bi_add, ↓in_i64, ↓ldK_p, ↓iaK_o, ↓op_move, ↓op_assign, ↓op_load, ↓op_bin, ↓op_ia, ↓op_store, ↓setRow_mk, ↓row_sz, ↓row_xs, ↓cells_c, ↓vcells_o, ↓one_i, ↓st_e, ↓ty3, ↓ty29, ↓sl29, List.getD_cons_zero, List.getD_cons_succ, List.set_cons_zero, List.set_cons_succ, List.length_cons, List.length_nil, List.all_cons, List.all_nil, Bool.true_and, Bool.and_self, Nat.reduceAdd, Nat.reduceSub, Nat.reduceMul, Nat.zero_add, Int.toNat_natCast, evK_go, reduceIte, decide_true, Nat.reduceEqDiff, Nat.reduceLT, and_self, true_and, Int.zero_add, Int.ofNat_lt, Int.natCast_nonneg]
      refine ⟨by omega, k + 1, by omega, by omega, ?_⟩
      refine Wkn.of [0, 1] [some 0] ?_
      simp (implicitDefEqProofs := false) (dsimp := false) only [← hset, List.map_set, ↓vcells_l, ↓vcells_o, List.getD_cons_zero, List.getD_cons_succ, List.set_cons_zero, List.set_cons_succ, List.length_cons, List.length_nil, Bool.and_self, Nat.reduceAdd, Nat.reduceSub, Nat.reduceMul, Nat.zero_add, List.replicate, evK_go, reduceIte, Nat.reduceEqDiff, Nat.reduceLT, and_self, Int.zero_add, List.foldl_cons, List.foldl_nil, Int.cast_ofNat_Int, Int.natCast_add, slots, wkL_nil, wkL_cons, wkB_nil, wkB_cons, wkR_nil, wkR_some, wkV_j, wkV_d, wkV_o, wkV_p, frz_d, oK_zs, pK_z, pK_s, reduceCtorEq]
    · obtain rfl : k = right := by omega
      simp (implicitDefEqProofs := false) (dsimp := false) only [negI_end, ↓aw_seq, ↓aw_block, ↓aw_exit, ↓aw_loop, ↓aw_reg, ↓Qseq_n, ↓Qseq_x, ↓Qblk_x, ↓ops_nil, ↓ops_cons, ↓eval_tmp, ↓eval_int, ↓put_some, ↓op_move, List.getD_cons_zero, List.set_cons_zero, List.set_cons_succ, Nat.reduceAdd, Nat.reduceSub, Nat.reduceMul, evK_go, reduceIte, decide_false, Nat.reduceEqDiff, Nat.reduceLT, Nat.lt_irrefl]
      refine loopW (fun i : Nat => { tm := slots 38 [(7, .p 0 0), (8, .p 1 0), (28, .d (I .i64 (left : Int))), (29, .d (I .i64 i))], bx := [.d (.l ((outS (max left 1) l).map U)), .o 0 0 k], rw := [some ⟨1, (kuhnK left k l i).map (I .i64)⟩] })
        (fun i => i ≤ left) (fun i => left - i) 0 (by simp) ?_ ?_
      · refine Wkn.of [0, 1] [some 0] ?_
        simp (implicitDefEqProofs := false) (dsimp := false) only [kuhnK, List.range_zero, List.foldl_nil, ↓vcells_l, ↓vcells_o, List.getD_cons_zero, List.getD_cons_succ, List.set_cons_zero, List.set_cons_succ, List.length_cons, List.length_nil, Bool.and_self, Nat.reduceAdd, Nat.reduceSub, Nat.reduceMul, Nat.zero_add, List.replicate, evK_go, reduceIte, Nat.reduceEqDiff, Nat.reduceLT, and_self, Int.zero_add, List.foldl_cons, List.foldl_nil, Int.cast_ofNat_Int, slots, wkL_nil, wkL_cons, wkB_nil, wkB_cons, wkR_nil, wkR_some, wkV_j, wkV_d, wkV_o, wkV_p, frz_d, oK_zs, pK_z, pK_s, reduceCtorEq]
      · intro i hi
        have hok := kuhnK_ok hs (by omega) i
        simp (implicitDefEqProofs := false) (dsimp := false) only [slots, ↓aw_cond, ↓aw_seq, ↓aw_reg, ↓Qseq_n, ↓ops_nil, ↓ops_cons, ↓eval_tmp, ↓put_some, ↓bK_b, ↓binE_i, ↓bi_lss, ↓op_bin, List.getD_cons_zero, List.getD_cons_succ, List.set_cons_zero, List.set_cons_succ, Nat.reduceAdd, Nat.reduceSub, Nat.reduceMul, List.replicate, evK_go, reduceIte, Nat.reduceEqDiff, Nat.reduceLT, List.foldl_cons, List.foldl_nil, Int.ofNat_lt]
        refine cdK_dec (fun h' => ?_) (fun h' => ?_)
        · simp (implicitDefEqProofs := false) (dsimp := false) only [ty54, zb54, cells_fp, ↓nthK_H, ↓nthH_zero, ↓aw_seq, ↓aw_block, ↓aw_skip, ↓aw_reg, ↓Qseq_n, ↓ops_nil, ↓ops_cons, ↓eval_tmp, ↓eval_int, ↓put_some, ↓put_none, ↓capsK_nil, ↓capsK_cons, ↓ldK_p, ↓op_move, ↓op_assign, ↓op_load, ↓op_func, ↓op_call, ↓op_alloc, ↓op_store, isD_d, isD_fp, ↓fnK_f, ↓call_H, ↓callK_H, ↓allT_nil, ↓allT_cons, ↓td_d, ↓boxK_d, ↓td_fp, ↓bq_nil, ↓bq_cons, ↓addBox_mk, ↓setBox_mk, ↓st_bx, ↓cells_c, ↓cells_l, ↓vcells_c, ↓one_i, ↓vone_d, constV_i, ↓st_p, ↓ty49, ↓zb49, List.getD_cons_zero, List.getD_cons_succ, List.set_cons_zero, List.set_cons_succ, List.cons_append, List.nil_append, List.map_cons, List.map_nil, List.length_cons, List.length_nil, List.all_cons, List.all_nil, Bool.and_true, Bool.true_and, Bool.and_self, Nat.reduceAdd, Nat.reduceSub, Nat.reduceMul, Nat.zero_add, evK_go, reduceIte, Nat.reduceEqDiff, Nat.reduceLT, and_self, true_and, and_true, Int.zero_add, List.drop_zero]
          have hun : unseen k 0 < k + 1 := by
            have := List.countP_le_length (p := fun j => !(0 : Nat).testBit j) (l := List.range k)
            simp (implicitDefEqProofs := false) (dsimp := false) only [List.length_range] at this
            unfold unseen; omega
          refine ⟨⟨rfl, rfl⟩, OrH.r (callM2 (fun gh => htry (k + 1) i ⟨kuhnK left k l i, 0⟩ [] [] gh h' hok hok.len (by show (0 : Nat) < 2 ^ 64; decide) hun (by simp)) rfl rfl rfl rfl rfl ?_)⟩
          rintro d bx' rw' gh' ⟨rfl, rfl, rfl, rfl⟩
          refine ⟨rfl, ?_⟩
          simp (implicitDefEqProofs := false) (dsimp := false) only [← kuhnK_succ, tB, tR, ↓aw_reg, ↓Qseq_n, ↓Qblk_n, ↓ops_nil, ↓ops_cons, ↓eval_tmp, ↓eval_int, ↓put_some, ↓binE_i, ↓bi_add, ↓in_i64, ↓op_move, ↓op_bin, ↓st_tm, ↓st_gh, List.getD_cons_zero, List.getD_cons_succ, List.set_cons_zero, List.set_cons_succ, List.append_nil, List.length_cons, List.length_nil, Nat.reduceAdd, Nat.reduceSub, Nat.reduceMul, Nat.zero_add, evK_go, reduceIte, Nat.reduceEqDiff, Nat.reduceLT, Int.zero_add, List.take_succ_cons, List.drop_succ_cons, List.take_nil, List.drop_nil]
          refine ⟨by omega, i + 1, by omega, by omega, ?_⟩
          refine Wkn.of [0, 1] [some 0] ?_
          simp (implicitDefEqProofs := false) (dsimp := false) only [↓vcells_l, ↓vcells_o, List.getD_cons_zero, List.getD_cons_succ, List.set_cons_zero, List.set_cons_succ, List.length_cons, List.length_nil, Bool.and_self, Nat.reduceAdd, Nat.reduceSub, Nat.reduceMul, Nat.zero_add, List.replicate, evK_go, reduceIte, Nat.reduceEqDiff, Nat.reduceLT, and_self, Int.zero_add, List.foldl_cons, List.foldl_nil, Int.cast_ofNat_Int, Int.natCast_add, slots, wkL_nil, wkL_cons, wkB_nil, wkB_cons, wkR_nil, wkR_some, wkV_j, wkV_d, wkV_o, wkV_p, frz_d, oK_zs, pK_z, pK_s, reduceCtorEq]
        · obtain rfl : i = left := by omega
          simp (implicitDefEqProofs := false) (dsimp := false) only [↓optK_some, ↓rwK_mk_, ↓nthK_H, ↓nthH_zero, ↓aw_seq, ↓aw_exit, ↓aw_ret, ↓aw_reg, ↓Qseq_n, ↓Qseq_x, ↓Qblk_x, ↓ops_nil, ↓ops_cons, ↓eval_tmp, ↓put_some, ↓ldK_p, ↓op_assign, ↓op_load, ↓row_sz, ↓row_xs, ↓vcells_o, ↓Qrow_r, ↓rowK_o, ↓ty29, List.getD_cons_zero, List.getD_cons_succ, List.set_cons_zero, List.set_cons_succ, Bool.true_and, Nat.reduceAdd, Nat.reduceSub, Nat.reduceMul, evK_go, reduceIte, decide_false, Nat.reduceEqDiff, Nat.reduceLT, true_and, Nat.lt_irrefl]
          have hok' : HasOK k i l (kuhnK i k l i) := hok
          exact List.take_of_length_le (by simp [hok'.len])
theorem pairs_callD (left right : Nat) (l : List (Nat × Nat)) (pure : Bool) (σ : St) (dst : Option Tmp) (K : St → Prop) : CallH Try.prog 29 [I .i64 (left : Int), I .i64 (right : Int), .l (l.map lnN)] pure σ dst (.mk : Hid K) = OrH ((left ≤ 8 ∧ right ≤ 8 ∧ l.length < 2 ^ 62 ∧ Sides left right l) ∧ (pure || D.flat (.l ((kuhn left right l).map (I .i64)))) = true ∧ evK (σ.put dst (.d (.l ((kuhn left right l).map (I .i64))))) (.mk : Hid K)) (.mk : Hid (CallH Try.prog 29 [I .i64 (left : Int), I .i64 (right : Int), .l (l.map lnN)] pure σ dst (.mk : Hid K))) := CallH.eq (fun h => ((fun h => pairs_spec left right l h) h).data) pure σ dst K
end Go.Proofs

namespace Go.Proofs
open Go.Aw
set_option linter.unusedSimpArgs false
set_option maxRecDepth 10000
def sfL : List (Int × Int) := [(1, 2), (2, 1), (0, 1)]
end Go.Proofs
