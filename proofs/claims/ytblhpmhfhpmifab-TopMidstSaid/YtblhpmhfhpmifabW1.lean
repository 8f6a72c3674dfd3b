/- Part W 1 of what the proof of TopMidst stands on: what the functions of the program compute. -/
import Derived.Test.YtblhpmhfhpmifabM1
import Derived.Test.YtblhpmhfhpmifabProg
import Derived.KernelRfl
import Derived.RangeFuncKeeps
import Derived.RangeFuncLeaves
import Derived.Shelf.Abstract
import Derived.WalkKit
import Derived.OwnWalkIn
import Derived.TacticsInMore
import Derived.LoopNIn
import Derived.LoopIn
import Derived.Test.YtblhpmhfhpmifabRows
import Derived.ProofKit
import Derived.JoinedCond
import Derived.SizedLaws
import Derived.ReadAgain
import Derived.Deep.SlicePairs
import Derived.Deep.Matrix
import Derived.Lib.SmallJoins
set_option linter.unusedVariables false
set_option linter.unusedSimpArgs false
namespace Go.Proofs
open Go.Aw
theorem ty3 (k : Bool → Nat → Prop) : tyK Try.prog 3 k = k false 1 := tyK_eq (by kernel_rfl) k
theorem zb3 (k : Value → Nat → Prop) : zbK Try.prog 3 k = k (.int .i64 0) 8 := zbK_eq (by kernel_rfl) k
theorem sl22 (k : TypeId → Prop) : slK Try.prog 22 k = k 28 := slK_eq (by kernel_rfl) k
theorem ty28 (k : Bool → Nat → Prop) : tyK Try.prog 28 k = k true 2 := tyK_eq (by kernel_rfl) k
theorem zb28 (k : Value → Nat → Prop) : zbK Try.prog 28 k = k (.agg #[.int .i64 0, .int .i64 0]) 16 := zbK_eq (by kernel_rfl) k
theorem fd28_0 (k : Nat → Nat → Prop) : fdK Try.prog 28 0 k = k 0 1 := fdK_eq (by kernel_rfl) k
theorem fd28_1 (k : Nat → Nat → Prop) : fdK Try.prog 28 1 k = k 1 1 := fdK_eq (by kernel_rfl) k
theorem bd28 (k : Nat → Nat → Prop) : bdK Try.prog 28 k = k 1 1 := bdK_eq (by kernel_rfl) k
theorem ty29 (k : Bool → Nat → Prop) : tyK Try.prog 29 k = k false 1 := tyK_eq (by kernel_rfl) k
theorem sl29 (k : TypeId → Prop) : slK Try.prog 29 k = k 3 := slK_eq (by kernel_rfl) k
theorem zb29 (k : Value → Nat → Prop) : zbK Try.prog 29 k = k (.slice none 0 0) 24 := zbK_eq (by kernel_rfl) k
theorem nc43 : ncI Try.prog 43 = true := by kernel_rfl
theorem sl45 (k : TypeId → Prop) : slK Try.prog 45 k = k 49 := slK_eq (by kernel_rfl) k
theorem ty49 (k : Bool → Nat → Prop) : tyK Try.prog 49 k = k false 1 := tyK_eq (by kernel_rfl) k
theorem zb49 (k : Value → Nat → Prop) : zbK Try.prog 49 k = k (.int .u64 0) 8 := zbK_eq (by kernel_rfl) k
theorem follows_mixed : Try.prog.follows .mixedOrders = true := by kernel_rfl
end Go.Proofs

namespace Go.Proofs
open Go.Aw
set_option linter.unusedSimpArgs false
set_option maxRecDepth 10000

theorem shr_and_one (s i : Nat) : (s / 2 ^ i &&& 1 = 1) ↔ s.testBit i = true := by
  rw [Nat.and_one_is_mod, Nat.testBit_eq_decide_div_mod_eq]
  simp

theorem below_spec (n : Nat) (hpre : n < 64) : FnD Try.prog 30 [I .i64 (n : Int)] (U (2 ^ n - 1)) := by
  refine FnD.go Try.func30 rfl rfl Try.results30 Try.ntmps30 ?_
  simp (implicitDefEqProofs := false) (dsimp := false) only [↓aw_seq, ↓aw_ret, ↓aw_reg, ↓Qseq_n, ↓Qret_r, ↓ops_nil, ↓ops_cons, ↓eval_tmp, ↓eval_int, ↓put_some, ↓binE_i, ↓binE_shl, ↓bi_sub, ↓bi_shl1, ↓in_u64, ↓op_move, ↓op_assign, ↓op_bin, ↓td_d, ↓ret_1, List.getD_cons_zero, List.getD_cons_succ, List.set_cons_zero, List.set_cons_succ, List.cons_append, List.nil_append, List.map_cons, List.map_nil, List.length_cons, List.length_nil, Nat.reduceAdd, Nat.reduceSub, Nat.reduceMul, Nat.zero_add, List.replicate, evK_go, reduceIte, Nat.reduceEqDiff, Nat.reduceLT, Int.zero_add]
  have hp : 2 ^ n ≤ 2 ^ 63 := Nat.pow_le_pow_right (by omega) (by omega)
  have h1 : 1 ≤ 2 ^ n := Nat.one_le_two_pow
  have e : ((2 ^ n : Nat) : Int) - 1 = ((2 ^ n - 1 : Nat) : Int) := by omega
  refine ⟨hpre, ?_⟩
  simp (implicitDefEqProofs := false) (dsimp := false) only [e, Bool.and_true, Bool.true_and, Nat.reduceAdd, Nat.reduceSub, Nat.reduceMul, evK_go, reduceIte, Nat.reduceEqDiff, Nat.reduceLT, true_and, and_true, Int.natCast_nonneg]
  omega
theorem below_call (n : Nat) (pure : Bool) (σ : St) (dst : Option Tmp) (K : St → Prop) : CallH Try.prog 30 [I .i64 (n : Int)] pure σ dst (.mk : Hid K) = OrH ((n < 64) ∧ (pure || D.flat (U (2 ^ n - 1))) = true ∧ evK (σ.put dst (.d (U (2 ^ n - 1)))) (.mk : Hid K)) (.mk : Hid (CallH Try.prog 30 [I .i64 (n : Int)] pure σ dst (.mk : Hid K))) := CallH.eq (below_spec n) pure σ dst K
theorem with_spec (s i : Nat) (hpre : s < 2 ^ 64 ∧ i < 64) : FnD Try.prog 25 [U s, I .i64 (i : Int)] (U (s ||| 2 ^ i)) := by
  refine FnD.go Try.func25 rfl rfl Try.results25 Try.ntmps25 ?_
  simp (implicitDefEqProofs := false) (dsimp := false) only [↓aw_seq, ↓aw_ret, ↓aw_reg, ↓Qseq_n, ↓Qret_r, ↓ops_nil, ↓ops_cons, ↓eval_tmp, ↓eval_int, ↓put_some, ↓binE_i, ↓binE_shl, ↓bi_or, ↓bi_shl1, ↓op_move, ↓op_assign, ↓op_bin, ↓td_d, ↓ret_1, List.getD_cons_zero, List.getD_cons_succ, List.set_cons_zero, List.set_cons_succ, List.cons_append, List.nil_append, List.map_cons, List.map_nil, List.length_cons, List.length_nil, Bool.and_true, Nat.reduceAdd, Nat.reduceSub, Nat.reduceMul, Nat.zero_add, List.replicate, evK_go, reduceIte, Nat.reduceEqDiff, Nat.reduceLT, and_true, Int.zero_add]
  have hp : 2 ^ i ≤ 2 ^ 63 := Nat.pow_le_pow_right (by omega) (by omega)
  exact ⟨hpre.2, hpre.1, by omega⟩
theorem with_call (s i : Nat) (pure : Bool) (σ : St) (dst : Option Tmp) (K : St → Prop) : CallH Try.prog 25 [U s, I .i64 (i : Int)] pure σ dst (.mk : Hid K) = OrH ((s < 2 ^ 64 ∧ i < 64) ∧ (pure || D.flat (U (s ||| 2 ^ i))) = true ∧ evK (σ.put dst (.d (U (s ||| 2 ^ i)))) (.mk : Hid K)) (.mk : Hid (CallH Try.prog 25 [U s, I .i64 (i : Int)] pure σ dst (.mk : Hid K))) := CallH.eq (with_spec s i) pure σ dst K
theorem with_callQ (s i : Nat) (pure : Bool) (C : V → Prop) : CallQ Try.prog 25 [U s, I .i64 (i : Int)] pure (.mk : Hid C) = OrH ((s < 2 ^ 64 ∧ i < 64) ∧ (pure || D.flat (U (s ||| 2 ^ i))) = true ∧ evK (V.d (U (s ||| 2 ^ i))) (.mk : Hid C)) (.mk : Hid (CallQ Try.prog 25 [U s, I .i64 (i : Int)] pure (.mk : Hid C))) := CallQ.eq (with_spec s i) pure C
theorem hasS_spec (s i : Nat) (hpre : s < 2 ^ 64 ∧ i ≤ 64) : FnD Try.prog 27 [U s, I .i64 (i : Int)] (Bo (s.testBit i)) := by
  refine FnD.go Try.func27 rfl rfl Try.results27 Try.ntmps27 ?_
  simp (implicitDefEqProofs := false) (dsimp := false) only [↓aw_seq, ↓aw_ret, ↓aw_reg, ↓Qseq_n, ↓Qret_r, ↓ops_nil, ↓ops_cons, ↓eval_tmp, ↓eval_int, ↓eval_bool, ↓put_some, ↓binE_i, ↓binE_shr, ↓bi_shr, ↓op_move, ↓op_assign, ↓op_bin, ↓ret_1, List.getD_cons_zero, List.getD_cons_succ, List.set_cons_zero, List.set_cons_succ, List.cons_append, List.nil_append, List.map_cons, List.map_nil, List.length_cons, List.length_nil, Bool.and_true, Bool.true_and, Nat.reduceAdd, Nat.reduceSub, Nat.reduceMul, Nat.zero_add, Int.toNat_natCast, List.replicate, evK_go, reduceIte, Nat.reduceEqDiff, Nat.reduceLT, true_and, and_true, Int.zero_add, Int.natCast_nonneg]
  have hl : s / 2 ^ i < 2 ^ 64 := Nat.lt_of_le_of_lt (Nat.div_le_self _ _) hpre.1
  have e1 : ((1 : Int)) = ((1 : Nat) : Int) := rfl
  refine ⟨by omega, ?_⟩
  rw [e1]
  simp (implicitDefEqProofs := false) (dsimp := false) only [↓binE_i, ↓bi_eql, ↓bi_and, ↓td_d, Nat.reduceAdd, Nat.reduceSub, Nat.reduceMul, evK_go, reduceIte, Nat.reduceEqDiff, Nat.reduceLT, Int.cast_ofNat_Int]
  refine ⟨⟨hl, by omega⟩, ?_⟩
  have := shr_and_one s i
  have h2 : (((s / 2 ^ i &&& 1 : Nat) : Int) = 1) ↔ s.testBit i = true := by rw [← this]; omega
  simp (implicitDefEqProofs := false) (dsimp := false) only [Bo_eq, h2, Nat.reduceAdd, Nat.reduceSub, Nat.reduceMul, evK_go, reduceIte, Nat.reduceEqDiff, Nat.reduceLT]
  cases s.testBit i <;> rfl
end Go.Proofs

namespace Go.Proofs
open Go.RowKit Go.Shelf
attribute [local go_sem] Oper.semAt_some

/-- The points of a set, rising. -/
def upto (s n : Nat) : List Int := ((List.range n).filter fun i => s.testBit i).map Int.ofNat

theorem upto_succ (s n : Nat) : upto s (n + 1) = if s.testBit n then upto s n ++ [(n : Int)] else upto s n := by
  unfold upto
  rw [List.range_succ, List.filter_append]
  cases h : s.testBit n <;> simp [h]

theorem upto_pre (s : Nat) {n m : Nat} (h : n ≤ m) : upto s n <+: upto s m := by
  induction m with
  | zero => obtain rfl : n = 0 := by omega
            exact List.prefix_refl _
  | succ m ih =>
    rcases Nat.lt_or_ge n (m + 1) with h' | h'
    · refine (ih (by omega)).trans ?_
      rw [upto_succ]
      split
      · exact List.prefix_append _ _
      · exact List.prefix_refl _
    · obtain rfl : n = m + 1 := by omega
      exact List.prefix_refl _
theorem upto_end (s : Nat) {n : Nat} (hn : n ≤ 64) (h : s / 2 ^ n = 0) : upto s n = ptsI s := by
  have hb : ∀ i, n ≤ i → s.testBit i = false := fun i hi => by
    have h1 : s < 2 ^ n := by
      rcases Nat.lt_or_ge s (2 ^ n) with h' | h'
      · exact h'
      · have := Nat.div_pos h' (Nat.two_pow_pos n); omega
    exact Nat.testBit_lt_two_pow (Nat.lt_of_lt_of_le h1 (Nat.pow_le_pow_right (by omega) hi))
  have key : ∀ m, n ≤ m → upto s m = upto s n := fun m hm => by
    induction m with
    | zero => obtain rfl : n = 0 := by omega
              rfl
    | succ m ih =>
      rcases Nat.lt_or_ge n (m + 1) with h' | h'
      · rw [upto_succ, hb m (by omega)]
        simpa using ih (by omega)
      · obtain rfl : n = m + 1 := by omega
        rfl
  exact (key 64 hn).symm

theorem hasS_in (s i : Nat) (hs : s < 2 ^ 64) (hi : i ≤ 64) (w : World) (hg : Go.Aw.Gl Try.prog w) : CallsIn Fence.wide 0 Try.prog 27 #[.int .u64 (s : Int), .int .i64 (i : Int)] w fun e w' => e = .returned (.bool (s.testBit i)) ∧ Go.Aw.Stp (fun _ => False) w w' := by
  have h := (hasS_spec s i ⟨hs, hi⟩).2 w (fun _ => False) [.int .u64 (s : Int), .int .i64 (i : Int)] hg (fun _ h => h.elim) ⟨rfl, fun k d v hd hv => by
    match k, hd, hv with
    | 0, hd, hv => simp at hd hv; subst hd; subst hv; exact .c _
    | 1, hd, hv => simp at hd hv; subst hd; subst hv; exact .c _⟩
  refine CallsIn.mono h ?_
  rintro e w' ⟨r, v, rfl, rfl, hb, hv⟩
  cases hv
  exact ⟨rfl, Go.Aw.Stp.below hb rfl⟩

set_option maxRecDepth 100000 in
set_option maxHeartbeats 1000000 in
theorem each1_in (l : Nat) (ad : Addr) (s : Nat) (hs : s < 2 ^ 64) (J : List Int → World → Prop) (Jx : World → Prop)
    (hJc : ∀ pre W, J pre W → W.cell? ad = some (.int .u64 (s : Int))) (hJg : ∀ pre W, J pre W → Go.Aw.Gl Try.prog W) (hJs : ∀ pre W W', J pre W → Go.Aw.Stp (fun _ => False) W W' → J pre W')
    (hY : ∀ pre x W1, J pre W1 → (pre ++ [x]) <+: ptsI s → YieldAt Fence.wide 0 Try.prog l #[.int .i64 x] W1 fun e W' => (e = .returned (.bool true) ∧ J (pre ++ [x]) W') ∨ (e = .returned (.bool false) ∧ Jx W'))
    (W : World) (h0 : J [] W) :
    CallsIn Fence.wide 0 Try.prog 40 #[.func (.yield l) #[] #[], .pointer (some ad)] W fun e W' => (∃ v, e = .returned v) ∧ (J (ptsI s) W' ∨ Jx W') := by
  refine callsIn_of_wp Try.func40 rfl trivial ?_ rfl
  simp (implicitDefEqProofs := false) (dsimp := false) only [Try.ntmps40, List.size_toArray, List.length_cons, List.length_nil, Nat.reduceAdd, Nat.reduceSub, Array.replicate_succ, Array.replicate_zero, List.push_toArray, List.append_toArray, List.nil_append, List.cons_append]
  gi_wp2
  gi_loopw [3] (fun p wr => ∃ i : Nat, p = .int .i64 (i : Int) ∧ i ≤ 64 ∧ J (upto s i) wr)
    (fun p _ => match p with | .int _ n => (64 - n).toNat | _ => 0)
  case atStart =>
    exact ⟨0, rfl, by omega, h0⟩
  case round =>
    obtain ⟨i, rfl, hi, hJ⟩ := hrel
    have hc := hJc _ _ hJ
    gi_wp2
    · refine ⟨trivial, rfl, (hasS_in s i hs hi _ (hJg _ _ hJ)).mono ?_⟩
      rintro e W2 ⟨rfl, hst⟩
      have hJ2 := hJs _ _ _ hJ hst
      have hz : ((s : Int) / 2 ^ i != 0) = true := by assumption
      have hi' : i < 64 := by
        rcases Nat.lt_or_ge i 64 with h' | h'
        · exact h'
        · obtain rfl : i = 64 := by omega
          have : s / 2 ^ 64 = 0 := Nat.div_eq_of_lt hs
          have e : ((s / 2 ^ 64 : Nat) : Int) = (s : Int) / 2 ^ 64 := by simp
          rw [← e, this] at hz
          simp at hz
      have hup := upto_succ s i
      cases hb : s.testBit i with
      | false =>
        rw [hb] at hup
        gi_wp2
        refine ⟨fun f h => (by cases h), ?_⟩
        gi_wp2
        go_roundw
        case rel => exact ⟨i + 1, by simp, by omega, by rw [hup]; exact hJ2⟩
        case measure => simp; omega
      | true =>
        rw [hb, if_pos rfl] at hup
        have hpre : upto s i ++ [(i : Int)] <+: ptsI s := hup ▸ upto_pre s hi'
        obtain ⟨fn, tmps, assign, body, hy, hR⟩ := hY _ _ _ hJ2 hpre
        gi_wp2
        refine ⟨rfl, hR.mono ?_⟩
        rintro e W3 (⟨rfl, hJ3⟩ | ⟨rfl, hJx3⟩)
        · gi_wp2
          go_roundw
          case rel => exact ⟨i + 1, by simp, by omega, by rw [hup]; exact hJ3⟩
          case measure => simp; omega
        · gi_wp2
          refine bodyPost_ret (results_none rfl _ _ _) rfl ?_
          exact ⟨⟨_, rfl⟩, .inr hJx3⟩
    · go_end0
      refine ⟨⟨_, rfl⟩, .inl ?_⟩
      have h : ((s : Int) / 2 ^ i != 0) = false := by assumption
      have : s / 2 ^ i = 0 := by
        have e : ((s / 2 ^ i : Nat) : Int) = (s : Int) / 2 ^ i := by simp
        simp at h
        omega
      rw [← upto_end s hi this]
      exact hJ
end Go.Proofs

namespace Go.Proofs
open Go.Aw
set_option linter.unusedSimpArgs false
set_option maxRecDepth 10000
theorem each_iter (s : Nat) (hs : s < 2 ^ 64) : IterA Try.prog 40 [.q [U s]] (ptsI s) := by
  refine ⟨fun args w => enters_of Try.func40 rfl rfl args w, fun w N us hul hur l J Jx W hJg hJN hJs _ hY h0 => ?_⟩
  obtain ⟨v, rfl⟩ : ∃ v, us = #[v] := Array.size_eq_one_iff.1 hul
  have hv := hur 0 _ v rfl rfl
  obtain ⟨ad, u, rfl, hN, hc, hd⟩ := hv.q_inv
  have h1 := hc 0 _ rfl
  have h2 := hd 0 _ rfl
  rw [show ad.add 0 = ad by simp [Addr.add]] at h1
  have h3 : u 0 = .int .u64 (s : Int) := by
    generalize u 0 = z at h2
    cases h2
    rfl
  rw [h3] at h1
  exact each1_in l ad s hs J Jx (fun pre W hJ => (World.cell?_of_block (hJN pre W hJ _ hN)).trans h1) hJg hJs hY W h0

theorem each_spec (s : Nat) : FnD Try.prog 26 [U s] (.f (.func 40) [.q [U s]]) := by
  refine FnD.go Try.func26 rfl rfl Try.results26 Try.ntmps26 ?_
  simp (implicitDefEqProofs := false) (dsimp := false) only [↓aw_seq, ↓aw_ret, ↓aw_reg, ↓Qseq_n, ↓Qret_r, ↓ops_nil, ↓ops_cons, ↓eval_tmp, ↓put_some, ↓capsK_nil, ↓capsK_cons, ↓op_assign, ↓op_func, ↓op_box, ↓boxK_d, ↓td_fp, ↓bq_nil, ↓bq_cons, ↓ret_1, ↓addBox_mk, ↓st_bx, ↓cells_c, ↓vcells_c, ↓one_i, ↓vone_d, List.getD_cons_zero, List.getD_cons_succ, List.set_cons_zero, List.set_cons_succ, List.cons_append, List.nil_append, List.map_cons, List.map_nil, List.length_cons, List.length_nil, List.all_cons, List.all_nil, Bool.and_self, Nat.reduceAdd, Nat.reduceSub, Nat.reduceMul, Nat.zero_add, List.replicate, evK_go, reduceIte, Nat.reduceEqDiff, Nat.reduceLT, and_self, Int.zero_add]
theorem each_call (s : Nat) (pure : Bool) (σ : St) (dst : Option Tmp) (K : St → Prop) : CallH Try.prog 26 [U s] pure σ dst (.mk : Hid K) = OrH ((pure || D.flat (.f (.func 40) [.q [U s]])) = true ∧ evK (σ.put dst (.d (.f (.func 40) [.q [U s]]))) (.mk : Hid K)) (.mk : Hid (CallH Try.prog 26 [U s] pure σ dst (.mk : Hid K))) := CallH.eq0 (each_spec s) pure σ dst K
theorem each_callQ (s : Nat) (pure : Bool) (C : V → Prop) : CallQ Try.prog 26 [U s] pure (.mk : Hid C) = OrH ((pure || D.flat (.f (.func 40) [.q [U s]])) = true ∧ evK (V.d (.f (.func 40) [.q [U s]])) (.mk : Hid C)) (.mk : Hid (CallQ Try.prog 26 [U s] pure (.mk : Hid C))) := CallQ.eq0 (each_spec s) pure C
end Go.Proofs

namespace Go.Proofs
open Go.Aw
set_option linter.unusedSimpArgs false
set_option maxRecDepth 10000
end Go.Proofs

namespace Go.Proofs
open Go.Aw
set_option linter.unusedSimpArgs false
set_option maxRecDepth 10000
/-- A line as data. -/
def lnD (p : Int × Int) : D := .s [I .i64 p.1, I .i64 p.2]
def inB (n lo hi : Int) : Bool := decide (lo ≤ n) && decide (n ≤ hi)
theorem within_spec (n low high : Int) : FnD Try.prog 36 [I .i64 n, I .i64 low, I .i64 high] (Bo (inB n low high)) := by
  refine FnD.go Try.func36 rfl rfl Try.results36 Try.ntmps36 ?_
  simp (implicitDefEqProofs := false) (dsimp := false) only [↓gdK_t, ↓gval_mk, ↓gvL_zero, ↓gvL_succ, ↓aw_seq, ↓aw_reg, ↓Qseq_n, ↓ops_nil, ↓ops_cons, ↓ops_guard, ↓eval_tmp, ↓eval_bool, ↓put_some, ↓binE_i, ↓bi_geq, ↓op_move, ↓op_assign, ↓op_bin, ↓st_tm, List.getD_cons_zero, List.getD_cons_succ, List.set_cons_zero, List.set_cons_succ, List.cons_append, List.nil_append, List.map_cons, List.map_nil, List.length_cons, List.length_nil, Nat.reduceAdd, Nat.reduceSub, Nat.reduceMul, Nat.zero_add, List.replicate, evK_go, reduceIte, Nat.reduceEqDiff, Nat.reduceLT, Int.zero_add]
  refine cdK_dec (fun h => ?_) (fun h => ?_) <;> simp (implicitDefEqProofs := false) (dsimp := false) only [h, inB, ↓cdK_true, ↓cdK_false, ↓gdK_t, ↓gval_mk, ↓gvL_zero, ↓gvL_succ, ↓aw_ret, ↓Qseq_n, ↓Qret_r, ↓ops_nil, ↓ops_cons, ↓ops_guard, ↓eval_tmp, ↓eval_bool, ↓put_some, ↓bK_b, ↓binE_i, ↓bi_leq, ↓op_move, ↓op_assign, ↓op_pick, ↓op_bin, ↓td_d, ↓ret_1, ↓st_tm, List.getD_cons_zero, List.getD_cons_succ, List.set_cons_zero, List.set_cons_succ, Bool.true_and, Bool.false_and, Nat.reduceAdd, Nat.reduceSub, Nat.reduceMul, evK_go, reduceIte, decide_true, decide_false, Nat.reduceEqDiff, Nat.reduceLT, true_and]
theorem within_call (n low high : Int) (pure : Bool) (σ : St) (dst : Option Tmp) (K : St → Prop) : CallH Try.prog 36 [I .i64 n, I .i64 low, I .i64 high] pure σ dst (.mk : Hid K) = OrH ((pure || D.flat (Bo (inB n low high))) = true ∧ evK (σ.put dst (.d (Bo (inB n low high)))) (.mk : Hid K)) (.mk : Hid (CallH Try.prog 36 [I .i64 n, I .i64 low, I .i64 high] pure σ dst (.mk : Hid K))) := CallH.eq0 (within_spec n low high) pure σ dst K
theorem all_spec (l : List Int) (low high : Int) (hpre : l.length < 2 ^ 62) : FnD Try.prog 17 [.l (l.map (I .i64)), I .i64 low, I .i64 high] (Bo (l.all fun x => inB x low high)) := by
  refine FnD.go Try.func17 rfl rfl Try.results17 Try.ntmps17 ?_
  simp (implicitDefEqProofs := false) (dsimp := false) only [↓aw_seq, ↓aw_block, ↓aw_loop, ↓aw_reg, ↓Qseq_n, ↓ops_nil, ↓ops_cons, ↓eval_tmp, ↓eval_int, ↓eval_bool, ↓put_some, ↓lenK_l, ↓op_move, ↓op_assign, ↓op_len, ↓sl29, List.getD_cons_zero, List.getD_cons_succ, List.set_cons_zero, List.set_cons_succ, List.cons_append, List.nil_append, List.map_cons, List.map_nil, List.length_cons, List.length_nil, List.length_map, Nat.reduceAdd, Nat.reduceSub, Nat.reduceMul, Nat.zero_add, List.replicate, evK_go, reduceIte, Nat.reduceEqDiff, Nat.reduceLT, Int.zero_add]
  refine loopW (fun k : Nat => { tm := slots 21 [(1, .d (I .i64 low)), (2, .d (I .i64 high)), (9, .d (.l (l.map (I .i64)))), (10, .d (I .i64 l.length)), (11, .d (I .i64 k))], bx := [], rw := [] })
    (fun k => k ≤ l.length ∧ (l.take k).all (fun x => inB x low high) = true) (fun k => l.length - k) 0 ⟨by simp, by simp⟩ ?_ ?_
  · refine Wkn.of [] [] ?_
    simp (implicitDefEqProofs := false) (dsimp := false) only [List.set_cons_zero, List.set_cons_succ, Bool.and_self, Nat.reduceAdd, Nat.reduceSub, Nat.reduceMul, List.replicate, evK_go, reduceIte, Nat.reduceEqDiff, Nat.reduceLT, and_self, List.foldl_cons, List.foldl_nil, Int.cast_ofNat_Int, slots, wkL_nil, wkL_cons, wkB_nil, wkR_nil, wkV_j, wkV_d, frz_d, reduceCtorEq]
  · rintro k ⟨h1, h2⟩
    simp (implicitDefEqProofs := false) (dsimp := false) only [slots, ↓aw_cond, ↓aw_seq, ↓aw_reg, ↓Qseq_n, ↓ops_nil, ↓ops_cons, ↓eval_tmp, ↓put_some, ↓bK_b, ↓binE_i, ↓bi_lss, ↓op_bin, List.getD_cons_zero, List.getD_cons_succ, List.set_cons_zero, List.set_cons_succ, Nat.reduceAdd, Nat.reduceSub, Nat.reduceMul, List.replicate, evK_go, reduceIte, Nat.reduceEqDiff, Nat.reduceLT, List.foldl_cons, List.foldl_nil, Int.ofNat_lt]
    refine cdK_dec (fun h => ?_) (fun h => ?_)
    · simp (implicitDefEqProofs := false) (dsimp := false) only [h, within_call, ↓cdK_not, ↓atK_H, ↓atH_map, ↓aw_cond, ↓aw_seq, ↓aw_block, ↓aw_skip, ↓aw_reg, ↓Qseq_n, ↓ops_nil, ↓ops_cons, ↓eval_tmp, ↓eval_func, ↓put_some, ↓bK_b, ↓iK_i, ↓ldK_q, ↓iaK_l, ↓op_move, ↓op_assign, ↓op_load, ↓op_not, ↓op_ia, ↓op_call, isD_d, ↓fnK_f, ↓call_H, ↓callK_H, ↓allT_nil, ↓allT_cons, ↓td_d, ↓cells_c, ↓hd_cons, ↓ty3, ↓sl29, List.getD_cons_zero, List.getD_cons_succ, List.set_cons_zero, List.set_cons_succ, List.append_nil, List.length_cons, List.length_nil, List.all_cons, List.all_nil, Bool.true_and, Bool.and_self, Bool.true_or, Nat.reduceAdd, Nat.reduceSub, Nat.reduceMul, Nat.zero_add, Int.toNat_natCast, evK_go, reduceIte, decide_true, Nat.reduceEqDiff, Nat.reduceLT, and_self, true_and, Int.zero_add, Int.natCast_nonneg]
      refine OrH.l (OrH.l ?_)
      refine cdK_split (fun hb => ?_) (fun hb => ?_)
      · simp (implicitDefEqProofs := false) (dsimp := false) only [↓aw_skip, ↓aw_reg, ↓Qseq_n, ↓Qblk_n, ↓ops_nil, ↓ops_cons, ↓eval_tmp, ↓eval_int, ↓put_some, ↓binE_i, ↓bi_add, ↓in_i64, ↓op_move, ↓op_bin, List.getD_cons_zero, List.getD_cons_succ, List.set_cons_zero, List.set_cons_succ, Nat.reduceAdd, Nat.reduceSub, Nat.reduceMul, evK_go, reduceIte, Nat.reduceEqDiff, Nat.reduceLT]
        refine ⟨by omega, k + 1, ⟨by omega, ?_⟩, by omega, ?_⟩
        · rw [take_succ_getD h, List.all_append, h2]; simp (implicitDefEqProofs := false) (dsimp := false) only [List.all_cons, List.all_nil, hb, Bool.and_self]
        · refine Wkn.of [] [] ?_
          simp (implicitDefEqProofs := false) (dsimp := false) only [List.set_cons_zero, List.set_cons_succ, Bool.and_self, Nat.reduceAdd, Nat.reduceSub, Nat.reduceMul, List.replicate, evK_go, reduceIte, Nat.reduceEqDiff, Nat.reduceLT, and_self, List.foldl_cons, List.foldl_nil, Int.cast_ofNat_Int, Int.natCast_add, slots, wkL_nil, wkL_cons, wkB_nil, wkR_nil, wkV_j, wkV_d, frz_d, reduceCtorEq]
      · simp (implicitDefEqProofs := false) (dsimp := false) only [all_false (p := fun x => inB x low high) h hb, ↓aw_seq, ↓aw_ret, ↓aw_reg, ↓Qseq_n, ↓Qseq_r, ↓Qblk_r, ↓Qret_r, ↓ops_nil, ↓ops_cons, ↓eval_tmp, ↓eval_bool, ↓put_some, ↓op_assign, ↓td_d, ↓ret_1, List.getD_cons_zero, List.getD_cons_succ, List.set_cons_zero, List.set_cons_succ, Nat.reduceAdd, Nat.reduceSub, Nat.reduceMul, evK_go, reduceIte, Nat.reduceEqDiff, Nat.reduceLT]
    · simp (implicitDefEqProofs := false) (dsimp := false) only [↓aw_seq, ↓aw_exit, ↓aw_ret, ↓aw_reg, ↓Qseq_n, ↓Qseq_x, ↓Qblk_x, ↓Qret_r, ↓ops_nil, ↓ops_cons, ↓eval_tmp, ↓eval_bool, ↓put_some, ↓op_assign, ↓td_d, ↓ret_1, List.getD_cons_zero, List.getD_cons_succ, List.set_cons_zero, List.set_cons_succ, Nat.reduceAdd, Nat.reduceSub, Nat.reduceMul, evK_go, reduceIte, Nat.reduceEqDiff, Nat.reduceLT]
      obtain rfl : k = l.length := by omega
      rw [List.take_length] at h2
      rw [h2]
end Go.Proofs

namespace Go.Proofs
open Go.Aw
set_option linter.unusedSimpArgs false
set_option maxRecDepth 10000
def lineErr (n : Int) (p : Int × Int) : Int := if (inB p.1 0 (n - 1) && inB p.2 0 (n - 1)) = false then 1 else if p.1 = p.2 then 3 else 0
def firstErr (f : Int × Int → Int) : List (Int × Int) → Int
  | [] => 0
  | p :: l => if f p = 0 then firstErr f l else f p
def chk (n : Int) (l : List (Int × Int)) : Int := if inB n 1 8 = false then 1 else if 24 < l.length then 4 else firstErr (lineErr n) l
/-- An error as data. -/
def erD (e : Int) : D := if e = 0 then .c .nilIface else .c (.iface 43 (.int .i64 e))
theorem erD_1 : erD 1 = .c (.iface 43 (.int .i64 1)) := rfl
theorem erD_3 : erD 3 = .c (.iface 43 (.int .i64 3)) := rfl
theorem erD_4 : erD 4 = .c (.iface 43 (.int .i64 4)) := rfl
theorem erD_0 : erD 0 = .c .nilIface := rfl
theorem eval_nilI (σ : St) : St.eval σ (.const .nilIface) = .d (.c .nilIface) := rfl
theorem firstErr_take {f : Int × Int → Int} {l : List (Int × Int)} {k : Nat} (h : k < l.length) (h0 : firstErr f (l.take k) = 0) : (f (l.getD k default) = 0 → firstErr f (l.take (k + 1)) = 0) ∧ (f (l.getD k default) ≠ 0 → firstErr f l = f (l.getD k default)) := by
  induction l generalizing k with
  | nil => simp at h
  | cons p l ih =>
    cases k with
    | zero => 
      constructor
      · intro h1
        have h1 : f p = 0 := h1
        simp [firstErr, h1]
      · intro h1
        have h1 : f p ≠ 0 := h1
        show (if f p = 0 then firstErr f l else f p) = f p
        rw [if_neg h1]
    | succ k =>
      have e : firstErr f (p :: l.take k) = 0 := h0
      by_cases hp : f p = 0
      · have e2 : firstErr f (l.take k) = 0 := by simpa [firstErr, hp] using e
        obtain ⟨g1, g2⟩ := ih (by simpa using h) e2
        constructor
        · intro h1
          show firstErr f (p :: l.take (k + 1)) = 0
          simp (implicitDefEqProofs := false) (dsimp := false) only [firstErr, hp, if_true]
          exact g1 h1
        · intro h1
          show firstErr f (p :: l) = _
          simp (implicitDefEqProofs := false) (dsimp := false) only [firstErr, hp, if_true]
          exact g2 h1
      · simp [firstErr, hp] at e
theorem all2_spec (a b low high : Int) : FnD Try.prog 17 [.l [I .i64 a, I .i64 b], I .i64 low, I .i64 high] (Bo (inB a low high && inB b low high)) := by
  have h := all_spec [a, b] low high (by simp)
  simpa using h
theorem all2_call (a b low high : Int) (pure : Bool) (σ : St) (dst : Option Tmp) (K : St → Prop) : CallH Try.prog 17 [.l [I .i64 a, I .i64 b], I .i64 low, I .i64 high] pure σ dst (.mk : Hid K) = OrH ((pure || D.flat (Bo (inB a low high && inB b low high))) = true ∧ evK (σ.put dst (.d (Bo (inB a low high && inB b low high)))) (.mk : Hid K)) (.mk : Hid (CallH Try.prog 17 [.l [I .i64 a, I .i64 b], I .i64 low, I .i64 high] pure σ dst (.mk : Hid K))) := CallH.eq0 (all2_spec a b low high) pure σ dst K
theorem check_spec (n : Int) (l : List (Int × Int)) (hpre : l.length < 2 ^ 62) : FnD Try.prog 37 [I .i64 n, .l (l.map lnD)] (erD (chk n l)) := by
  refine FnD.go Try.func37 rfl rfl Try.results37 Try.ntmps37 ?_
  simp (implicitDefEqProofs := false) (dsimp := false) only [within_call, eval_nilI, ↓cdK_not, ↓aw_cond, ↓aw_seq, ↓aw_reg, ↓Qseq_n, ↓ops_nil, ↓ops_cons, ↓eval_tmp, ↓eval_int, ↓eval_func, ↓put_some, ↓bK_b, ↓op_move, ↓op_assign, ↓op_not, ↓op_call, isD_d, ↓fnK_f, ↓call_H, ↓callK_H, ↓allT_nil, ↓allT_cons, ↓td_d, List.getD_cons_zero, List.getD_cons_succ, List.set_cons_zero, List.set_cons_succ, List.cons_append, List.nil_append, List.append_nil, List.map_cons, List.map_nil, List.length_cons, List.length_nil, List.all_cons, List.all_nil, Bool.true_and, Bool.and_self, Bool.true_or, Nat.reduceAdd, Nat.reduceSub, Nat.reduceMul, Nat.zero_add, List.replicate, evK_go, reduceIte, Nat.reduceEqDiff, Nat.reduceLT, and_self, true_and, Int.zero_add]
  refine OrH.l (OrH.l (cdK_split (fun hn => ?_) (fun hn => ?_)))
  rotate_left
  · simp (implicitDefEqProofs := false) (dsimp := false) only [chk, hn, nc43, erD_1, ↓aw_seq, ↓aw_ret, ↓aw_reg, ↓Qseq_n, ↓Qseq_r, ↓Qret_r, ↓ops_nil, ↓ops_cons, ↓eval_tmp, ↓eval_int, ↓put_some, ↓vK_c, ↓op_assign, ↓op_iface, ↓td_d, ↓ret_1, ↓nc43, List.getD_cons_zero, List.getD_cons_succ, List.set_cons_zero, List.set_cons_succ, Bool.and_self, Nat.reduceAdd, Nat.reduceSub, Nat.reduceMul, evK_go, reduceIte, Bool.not_false, Nat.reduceEqDiff, Nat.reduceLT, and_self]
  simp (implicitDefEqProofs := false) (dsimp := false) only [↓aw_cond, ↓aw_seq, ↓aw_skip, ↓aw_reg, ↓Qseq_n, ↓ops_nil, ↓ops_cons, ↓eval_tmp, ↓eval_int, ↓put_some, ↓bK_b, ↓lenK_l, ↓binE_i, ↓bi_gtr, ↓op_move, ↓op_bin, ↓op_len, ↓sl22, List.getD_cons_zero, List.getD_cons_succ, List.set_cons_zero, List.set_cons_succ, List.length_map, Nat.reduceAdd, Nat.reduceSub, Nat.reduceMul, evK_go, reduceIte, Nat.reduceEqDiff, Nat.reduceLT]
  refine cdK_dec (fun h24 => ?_) (fun h24 => ?_)
  · have h24' : 24 < l.length := by omega
    simp (implicitDefEqProofs := false) (dsimp := false) only [chk, hn, h24', nc43, ↓aw_seq, ↓aw_ret, ↓aw_reg, ↓Qseq_n, ↓Qseq_r, ↓Qret_r, ↓ops_nil, ↓ops_cons, ↓eval_tmp, ↓eval_int, ↓put_some, ↓vK_c, ↓op_assign, ↓op_iface, ↓td_d, ↓ret_1, ↓nc43, List.getD_cons_zero, List.getD_cons_succ, List.set_cons_zero, List.set_cons_succ, Bool.true_and, Nat.reduceAdd, Nat.reduceSub, Nat.reduceMul, evK_go, reduceIte, Bool.not_true, Nat.reduceEqDiff, Nat.reduceLT, true_and]
    simp (implicitDefEqProofs := false) (dsimp := false) only [Bool.true_eq_false, reduceIte, erD_4]
  have h24' : ¬ 24 < l.length := by omega
  have hc : chk n l = firstErr (lineErr n) l := by simp [chk, hn, h24']
  rw [hc]
  simp (implicitDefEqProofs := false) (dsimp := false) only [↓aw_seq, ↓aw_block, ↓aw_skip, ↓aw_loop, ↓aw_reg, ↓Qseq_n, ↓ops_nil, ↓ops_cons, ↓eval_tmp, ↓eval_int, ↓put_some, ↓lenK_l, ↓op_move, ↓op_len, ↓sl22, List.getD_cons_zero, List.getD_cons_succ, List.set_cons_zero, List.set_cons_succ, List.length_map, Nat.reduceAdd, Nat.reduceSub, Nat.reduceMul, evK_go, reduceIte, Nat.reduceEqDiff, Nat.reduceLT]
  have hn' : 1 ≤ n ∧ n ≤ 8 := by simpa [inB] using hn
  refine loopW (fun k : Nat => { tm := slots 38 [(0, .d (I .i64 n)), (15, .d (.l (l.map lnD))), (16, .d (I .i64 l.length)), (17, .d (I .i64 k))], bx := [], rw := [] })
    (fun k => k ≤ l.length ∧ firstErr (lineErr n) (l.take k) = 0) (fun k => l.length - k) 0 ⟨by simp, by simp [firstErr]⟩ ?_ ?_
  · refine Wkn.of [] [] ?_
    simp (implicitDefEqProofs := false) (dsimp := false) only [List.set_cons_zero, List.set_cons_succ, Bool.and_self, Nat.reduceAdd, Nat.reduceSub, Nat.reduceMul, List.replicate, evK_go, reduceIte, Nat.reduceEqDiff, Nat.reduceLT, and_self, List.foldl_cons, List.foldl_nil, Int.cast_ofNat_Int, slots, wkL_nil, wkL_cons, wkB_nil, wkR_nil, wkV_j, wkV_d, frz_d, reduceCtorEq]
  · rintro k ⟨h1, h2⟩
    simp (implicitDefEqProofs := false) (dsimp := false) only [slots, ↓aw_cond, ↓aw_seq, ↓aw_reg, ↓Qseq_n, ↓ops_nil, ↓ops_cons, ↓eval_tmp, ↓put_some, ↓bK_b, ↓binE_i, ↓bi_lss, ↓op_bin, List.getD_cons_zero, List.getD_cons_succ, List.set_cons_zero, List.set_cons_succ, Nat.reduceAdd, Nat.reduceSub, Nat.reduceMul, List.replicate, evK_go, reduceIte, Nat.reduceEqDiff, Nat.reduceLT, List.foldl_cons, List.foldl_nil, Int.ofNat_lt]
    refine cdK_dec (fun h => ?_) (fun h => ?_)
    · obtain ⟨g1, g2⟩ := firstErr_take h h2
      simp (implicitDefEqProofs := false) (dsimp := false) only [h, lnD, all2_call, ↓cdK_not, ↓atK_H, ↓atH_map, ↓nthK_H, ↓nthH_zero, ↓nthH_succ, ↓aw_cond, ↓aw_seq, ↓aw_block, ↓aw_skip, ↓aw_reg, ↓Qseq_n, ↓ops_nil, ↓ops_cons, ↓eval_tmp, ↓eval_int, ↓eval_func, ↓put_some, ↓put_none, ↓bK_b, ↓iK_i, ↓dK_d, ↓binE_i, ↓bi_sub, ↓in_i64, ↓ldK_q, ↓ldK_p, ↓faK_p, ↓iaK_l, ↓op_move, ↓op_load, ↓op_bin, ↓op_not, ↓op_fa, ↓op_ia, ↓op_call, ↓op_alloc, ↓op_store, isD_d, ↓fnK_f, ↓call_H, ↓callK_H, ↓allT_nil, ↓allT_cons, ↓allD_nil, ↓allD_cons, ↓td_d, ↓addBox_mk, ↓setBox_mk, ↓st_bx, ↓cells_c, ↓cells_s, ↓vcells_s, ↓one_i, ↓vone_d, constV_a, ↓st_p, ↓bs_, ↓op_bs, ↓bsL_f, ↓stored_mk, ↓sl_nil, ↓sl_cons, ↓sT_move, ↓sT_load, ↓sT_bin, ↓sT_un, ↓sT_fa, ↓sT_bs, ↓sT_call, ↓vsz_int, ↓inO_2, ↓fm_nil, ↓fm_cons, ↓ty3, ↓zb3, ↓sl22, ↓ty28, ↓zb28, ↓fd28_0, ↓fd28_1, ↓sl29, List.getD_cons_zero, List.getD_cons_succ, List.set_cons_zero, List.set_cons_succ, List.nil_append, List.append_nil, List.map_cons, List.map_nil, List.length_cons, List.length_nil, List.all_cons, List.all_nil, Bool.true_and, Bool.and_self, Bool.true_or, Bool.or_false, Nat.reduceAdd, Nat.reduceSub, Nat.reduceMul, Nat.zero_add, Nat.add_zero, Int.toNat_natCast, evK_go, reduceIte, decide_true, Nat.reduceEqDiff, Nat.reduceLT, and_self, true_and, Int.zero_add, List.take_succ_cons, List.take_nil, Int.natCast_nonneg]
      refine ⟨by omega, by omega, by omega, OrH.l (OrH.l (cdK_split (fun hb => ?_) (fun hb => ?_)))⟩
      · simp (implicitDefEqProofs := false) (dsimp := false) only [↓nthK_H, ↓nthH_zero, ↓nthH_succ, ↓aw_cond, ↓aw_seq, ↓aw_skip, ↓aw_reg, ↓Qseq_n, ↓ops_nil, ↓ops_cons, ↓eval_tmp, ↓put_some, ↓bK_b, ↓binE_i, ↓bi_eql, ↓ldK_p, ↓faK_p, ↓op_load, ↓op_bin, ↓op_fa, ↓vcells_s, ↓ty3, ↓fd28_0, ↓fd28_1, List.getD_cons_zero, List.getD_cons_succ, List.set_cons_zero, List.set_cons_succ, List.map_cons, List.map_nil, Bool.true_and, Nat.reduceAdd, Nat.reduceSub, Nat.reduceMul, Nat.zero_add, Nat.add_zero, evK_go, reduceIte, Nat.reduceEqDiff, Nat.reduceLT, true_and, Int.zero_add]
        refine cdK_dec (fun he => ?_) (fun he => ?_)
        · have e : lineErr n (l.getD k default) = 3 := by unfold lineErr; rw [hb, if_neg (by decide), if_pos he]
          rw [g2 (by rw [e]; decide), e]
          simp (implicitDefEqProofs := false) (dsimp := false) only [nc43, erD_3, ↓aw_seq, ↓aw_ret, ↓aw_reg, ↓Qseq_n, ↓Qseq_r, ↓Qblk_r, ↓Qret_r, ↓ops_nil, ↓ops_cons, ↓eval_tmp, ↓eval_int, ↓put_some, ↓vK_c, ↓op_assign, ↓op_iface, ↓td_d, ↓ret_1, ↓nc43, List.getD_cons_zero, List.getD_cons_succ, List.set_cons_zero, List.set_cons_succ, Bool.and_self, Nat.reduceAdd, Nat.reduceSub, Nat.reduceMul, evK_go, reduceIte, Nat.reduceEqDiff, Nat.reduceLT, and_self]
        · have e : lineErr n (l.getD k default) = 0 := by simp (implicitDefEqProofs := false) (dsimp := false) only [lineErr, hb, he, reduceIte, Bool.true_eq_false]
          simp (implicitDefEqProofs := false) (dsimp := false) only [↓aw_skip, ↓aw_reg, ↓Qseq_n, ↓Qblk_n, ↓ops_nil, ↓ops_cons, ↓eval_tmp, ↓eval_int, ↓put_some, ↓binE_i, ↓bi_add, ↓in_i64, ↓op_move, ↓op_bin, List.getD_cons_zero, List.getD_cons_succ, List.set_cons_zero, List.set_cons_succ, Nat.reduceAdd, Nat.reduceSub, Nat.reduceMul, evK_go, reduceIte, Nat.reduceEqDiff, Nat.reduceLT]
          refine ⟨by omega, k + 1, ⟨by omega, g1 e⟩, by omega, ?_⟩
          refine Wkn.of [] [] ?_
          simp (implicitDefEqProofs := false) (dsimp := false) only [List.set_cons_zero, List.set_cons_succ, Bool.and_self, Nat.reduceAdd, Nat.reduceSub, Nat.reduceMul, List.replicate, evK_go, reduceIte, Nat.reduceEqDiff, Nat.reduceLT, and_self, List.foldl_cons, List.foldl_nil, Int.cast_ofNat_Int, Int.natCast_add, slots, wkL_nil, wkL_cons, wkB_nil, wkR_nil, wkV_j, wkV_d, frz_d, reduceCtorEq]
      · have e : lineErr n (l.getD k default) = 1 := by simp (implicitDefEqProofs := false) (dsimp := false) only [lineErr, hb, reduceIte]
        rw [g2 (by rw [e]; decide), e]
        simp (implicitDefEqProofs := false) (dsimp := false) only [nc43, erD_1, ↓aw_seq, ↓aw_ret, ↓aw_reg, ↓Qseq_n, ↓Qseq_r, ↓Qblk_r, ↓Qret_r, ↓ops_nil, ↓ops_cons, ↓eval_tmp, ↓eval_int, ↓put_some, ↓vK_c, ↓op_assign, ↓op_iface, ↓td_d, ↓ret_1, ↓nc43, List.getD_cons_zero, List.getD_cons_succ, List.set_cons_zero, List.set_cons_succ, Bool.and_self, Nat.reduceAdd, Nat.reduceSub, Nat.reduceMul, evK_go, reduceIte, Nat.reduceEqDiff, Nat.reduceLT, and_self]
    · obtain rfl : k = l.length := by omega
      rw [List.take_length] at h2
      rw [h2]
      simp (implicitDefEqProofs := false) (dsimp := false) only [eval_nilI, erD_0, ↓aw_seq, ↓aw_exit, ↓aw_ret, ↓aw_reg, ↓Qseq_n, ↓Qseq_x, ↓Qblk_x, ↓Qret_r, ↓ops_nil, ↓ops_cons, ↓eval_tmp, ↓put_some, ↓op_assign, ↓td_d, ↓ret_1, List.getD_cons_zero, List.getD_cons_succ, List.set_cons_zero, List.set_cons_succ, Nat.reduceAdd, Nat.reduceSub, Nat.reduceMul, evK_go, reduceIte, decide_false, Nat.reduceEqDiff, Nat.reduceLT, Nat.lt_irrefl]
theorem check_call (n : Int) (l : List (Int × Int)) (pure : Bool) (σ : St) (dst : Option Tmp) (K : St → Prop) : CallH Try.prog 37 [I .i64 n, .l (l.map lnD)] pure σ dst (.mk : Hid K) = OrH ((l.length < 2 ^ 62) ∧ (pure || D.flat (erD (chk n l))) = true ∧ evK (σ.put dst (.d (erD (chk n l)))) (.mk : Hid K)) (.mk : Hid (CallH Try.prog 37 [I .i64 n, .l (l.map lnD)] pure σ dst (.mk : Hid K))) := CallH.eq (check_spec n l) pure σ dst K
end Go.Proofs

namespace Go.Proofs
open Go.Aw
set_option linter.unusedSimpArgs false
set_option maxRecDepth 10000
/-- A line of points as data. -/
def lnN (p : Nat × Nat) : D := .s [I .i64 (p.1 : Int), I .i64 (p.2 : Int)]
theorem out_spec (n : Nat) (l : List (Nat × Nat)) (hpre : n ≤ 64 ∧ l.length < 2 ^ 62 ∧ ∀ p ∈ l, p.1 < n ∧ p.2 < 64) : FnR Try.prog 38 [I .i64 (n : Int), .l (l.map lnN)] 1 ((outS n l).map U) := by
  obtain ⟨hn, hl, hp⟩ := hpre
  refine FnR.go Try.func38 rfl rfl Try.results38 Try.ntmps38 ?_
  simp (implicitDefEqProofs := false) (dsimp := false) only [↓aw_seq, ↓aw_block, ↓aw_loop, ↓aw_reg, ↓Qseq_n, ↓ops_nil, ↓ops_cons, ↓eval_tmp, ↓eval_int, ↓eval_nil, ↓put_some, ↓iK_i, ↓dK_d, ↓lenK_l, ↓op_move, ↓op_assign, ↓op_len, ↓op_make, ↓addRow_mk, ↓st_rw, ↓cells_c, ↓one_i, constV_i, ↓mk_, ↓vsz_int, ↓sl22, ↓sl45, ↓ty49, ↓zb49, List.getD_cons_zero, List.getD_cons_succ, List.set_cons_zero, List.set_cons_succ, List.cons_append, List.nil_append, List.map_cons, List.map_nil, List.length_cons, List.length_nil, List.length_map, List.all_cons, List.all_nil, Bool.and_true, Bool.true_and, Bool.and_self, Nat.reduceAdd, Nat.reduceSub, Nat.reduceMul, Nat.zero_add, Int.toNat_natCast, List.replicate, evK_go, reduceIte, Nat.reduceEqDiff, Nat.reduceLT, and_self, true_and, and_true, Int.zero_add, Int.natCast_nonneg]
  refine ⟨by omega, ?_⟩
  refine loopW (fun k : Nat => { tm := slots 30 [(5, .o 0 0 n), (10, .d (.l (l.map lnN))), (11, .d (I .i64 l.length)), (12, .d (I .i64 k))], bx := [], rw := [some ⟨1, (outS n (l.take k)).map U⟩] })
    (fun k => k ≤ l.length) (fun k => l.length - k) 0 (by simp) ?_ ?_
  · refine Wkn.of [] [some 0] ?_
    simp (implicitDefEqProofs := false) (dsimp := false) only [List.getD_cons_zero, List.set_cons_zero, List.set_cons_succ, Bool.and_true, Bool.true_and, Bool.and_self, Nat.reduceAdd, Nat.reduceSub, Nat.reduceMul, List.replicate, evK_go, reduceIte, Nat.reduceEqDiff, Nat.reduceLT, and_self, true_and, and_true, List.take_zero, List.foldl_cons, List.foldl_nil, Int.cast_ofNat_Int, slots, wkL_nil, wkL_cons, wkB_nil, wkR_nil, wkR_some, wkV_j, wkV_d, wkV_o, frz_d, oK_zs, reduceCtorEq, Option.some.injEq]
    simp [outS, U]
  · rintro k h1
    simp (implicitDefEqProofs := false) (dsimp := false) only [slots, ↓aw_cond, ↓aw_seq, ↓aw_reg, ↓Qseq_n, ↓ops_nil, ↓ops_cons, ↓eval_tmp, ↓put_some, ↓bK_b, ↓binE_i, ↓bi_lss, ↓op_bin, List.getD_cons_zero, List.getD_cons_succ, List.set_cons_zero, List.set_cons_succ, Nat.reduceAdd, Nat.reduceSub, Nat.reduceMul, List.replicate, evK_go, reduceIte, Nat.reduceEqDiff, Nat.reduceLT, List.foldl_cons, List.foldl_nil, Int.ofNat_lt]
    refine cdK_dec (fun h => ?_) (fun h => ?_)
    · simp (implicitDefEqProofs := false) (dsimp := false) only [h, lnN, with_callQ, ↓optK_some, ↓rwK_mk_, ↓atK_H, ↓atH_map, ↓nthK_H, ↓nthH_zero, ↓nthH_succ, ↓aw_seq, ↓aw_block, ↓aw_skip, ↓aw_reg, ↓aw_draw, ↓Qseq_n, ↓Qblk_n, ↓ops_nil, ↓ops_cons, ↓eval_tmp, ↓eval_int, ↓eval_func, ↓put_some, ↓put_none, ↓iK_i, ↓dK_d, ↓ev_move, ↓ev_load, ↓ev_fa, ↓ev_ia, ↓binE_i, ↓bi_add, ↓in_i64, ↓ldK_q, ↓ldK_p, ↓ldK_e, ↓faK_p, ↓iaK_l, ↓iaK_o, ↓op_move, ↓op_load, ↓op_bin, ↓op_ia, ↓op_alloc, ↓op_store, isD_d, ↓fnK_f, ↓callKQ_H, ↓allT_nil, ↓allT_cons, ↓td_d, ↓draw_H, ↓h_cons, ↓ldH_t, ↓ldH_n, ↓q_call, ↓q_move, ↓q_load, ↓q_fa, ↓q_ia, ↓il_move, ↓il_load, ↓il_fa, ↓il_ia, ↓il_call, ↓il_store, ↓addBox_mk, ↓setBox_mk, ↓setRow_mk, ↓st_bx, ↓row_sz, ↓row_xs, ↓cells_c, ↓cells_s, ↓vcells_s, ↓one_i, ↓vone_d, constV_a, ↓st_p, ↓st_e, ↓ty3, ↓sl22, ↓ty28, ↓zb28, ↓fd28_0, ↓fd28_1, ↓sl45, ↓ty49, List.getD_cons_zero, List.getD_cons_succ, List.set_cons_zero, List.set_cons_succ, List.nil_append, List.append_nil, List.map_cons, List.map_nil, List.length_cons, List.length_nil, List.all_cons, List.all_nil, Bool.true_and, Bool.and_self, Bool.true_or, Nat.reduceAdd, Nat.reduceSub, Nat.reduceMul, Nat.zero_add, Nat.add_zero, Int.toNat_natCast, evK_go, reduceIte, decide_true, Nat.reduceEqDiff, Nat.reduceLT, and_self, true_and, Int.zero_add, List.take_succ_cons, List.take_nil, Int.ofNat_lt, Int.natCast_nonneg]
      obtain ⟨h2, h3⟩ := hp _ (getD_mem h)
      have h4 := outS_len n (l.take k)
      have h5 : (outS n (l.take k)).getD (l.getD k default).1 default < 2 ^ 64 := outS_lt n (l.take k) (fun p hq => (hp p (List.mem_of_mem_take hq)).2) _ (getD_mem (by rw [h4]; exact h2))
      refine ⟨by omega, OrH.l ⟨DrawH.of follows_mixed (by kernel_rfl), h2, by rw [h4]; exact h2, OrH.l (OrH.l ⟨⟨h5, h3⟩, h2, ⟨by omega, by omega⟩, k + 1, by omega, by omega, ?_⟩)⟩⟩
      refine Wkn.of [] [some 0] ?_
      simp (implicitDefEqProofs := false) (dsimp := false) only [List.getD_cons_zero, List.set_cons_zero, List.set_cons_succ, Bool.and_true, Bool.true_and, Bool.and_self, Nat.reduceAdd, Nat.reduceSub, Nat.reduceMul, List.replicate, evK_go, reduceIte, Nat.reduceEqDiff, Nat.reduceLT, and_self, true_and, and_true, List.foldl_cons, List.foldl_nil, Int.cast_ofNat_Int, Int.natCast_add, slots, wkL_nil, wkL_cons, wkB_nil, wkR_nil, wkR_some, wkV_j, wkV_d, wkV_o, frz_d, oK_zs, reduceCtorEq, Option.some.injEq]
      rw [take_succ_getD h, outS_snoc, outF, List.map_set]
    · obtain rfl : k = l.length := by omega
      simp (implicitDefEqProofs := false) (dsimp := false) only [↓optK_some, ↓rwK_mk_, ↓aw_seq, ↓aw_exit, ↓aw_ret, ↓aw_reg, ↓Qseq_n, ↓Qseq_x, ↓Qblk_x, ↓ops_nil, ↓ops_cons, ↓eval_tmp, ↓put_some, ↓op_move, ↓op_assign, ↓row_sz, ↓row_xs, ↓Qrow_r, ↓rowK_o, List.getD_cons_zero, List.getD_cons_succ, List.set_cons_zero, List.set_cons_succ, Bool.true_and, Nat.reduceAdd, Nat.reduceSub, Nat.reduceMul, evK_go, reduceIte, decide_false, Nat.reduceEqDiff, Nat.reduceLT, true_and, Nat.lt_irrefl]
      simp (implicitDefEqProofs := false) (dsimp := false) only [List.take_length]
      have h4 := outS_len n l
      exact List.take_of_length_le (by simp [h4])
theorem out_call (n : Nat) (l : List (Nat × Nat)) (pure : Bool) (σ : St) (dst : Option Tmp) (K : St → Prop) : CallH Try.prog 38 [I .i64 (n : Int), .l (l.map lnN)] pure σ dst (.mk : Hid K) = OrH ((n ≤ 64 ∧ l.length < 2 ^ 62 ∧ ∀ p ∈ l, p.1 < n ∧ p.2 < 64) ∧ (pure || Res.flat (.row 1 ((outS n l).map U))) = true ∧ evK ((σ.addRow ⟨1, (outS n l).map U⟩).put dst (.o σ.rw.length 0 (List.length ((outS n l).map U)))) (.mk : Hid K)) (.mk : Hid (CallH Try.prog 38 [I .i64 (n : Int), .l (l.map lnN)] pure σ dst (.mk : Hid K))) := CallH.eqR (fun h => out_spec n l h) pure σ dst K
end Go.Proofs

namespace Go.Proofs
open Go.Aw
set_option linter.unusedSimpArgs false
set_option maxRecDepth 10000
/-- Numbers as data. -/
def nD (n : Nat) : D := I .i64 (n : Int)
theorem with0_spec (i : Nat) (hpre : i < 64) : FnD Try.prog 25 [I .u64 0, I .i64 (i : Int)] (U (2 ^ i)) := by
  have h := with_spec 0 i ⟨by decide, hpre⟩
  rw [Nat.zero_or] at h
  exact h
theorem with0_call (i : Nat) (pure : Bool) (σ : St) (dst : Option Tmp) (K : St → Prop) : CallH Try.prog 25 [I .u64 0, I .i64 (i : Int)] pure σ dst (.mk : Hid K) = OrH ((i < 64) ∧ (pure || D.flat (U (2 ^ i))) = true ∧ evK (σ.put dst (.d (U (2 ^ i)))) (.mk : Hid K)) (.mk : Hid (CallH Try.prog 25 [I .u64 0, I .i64 (i : Int)] pure σ dst (.mk : Hid K))) := CallH.eq (with0_spec i) pure σ dst K
/-- The loop's state: seen, the row's head, what is to do. -/
structure RS where
  s : Nat
  pre : List Nat
  q : List Nat
structure RI (a w : Nat) (next : List Nat) (st : RS) : Prop where
  lt : st.s < 2 ^ 64
  start : st.s.testBit a = true
  ql : st.q.length ≤ cnt st.s
  sound : ∀ j, st.s.testBit j = true → Rch next w a j
  inq : ∀ j ∈ st.q, st.s.testBit j = true
  done : ∀ b, st.s.testBit b = true → b ∉ st.q → ∀ c, (next.getD b default).testBit c = true → w.testBit c = true → st.s.testBit c = true
set_option maxHeartbeats 1000000 in
theorem reach_spec (a w : Nat) (next : List Nat) (hpre : a < next.length ∧ next.length ≤ 64 ∧ w < 2 ^ next.length ∧ (∀ x ∈ next, x < 2 ^ 64)) : FnD Try.prog 35 [I .i64 (a : Int), .l (next.map U), U w] (U (reach next w a)) := by
  obtain ⟨ha, hlen, hw, hn⟩ := hpre
  have ha' : a < 64 := by omega
  have hw' : w < 2 ^ 64 := Nat.lt_of_lt_of_le hw (Nat.pow_le_pow_right (by omega) hlen)
  refine FnD.go Try.func35 rfl rfl Try.results35 Try.ntmps35 ?_
  simp (implicitDefEqProofs := false) (dsimp := false) only [with0_call, ha', ↓aw_seq, ↓aw_block, ↓aw_loop, ↓aw_reg, ↓Qseq_n, ↓ops_nil, ↓ops_cons, ↓eval_tmp, ↓eval_int, ↓eval_func, ↓put_some, ↓put_none, ↓dK_d, ↓op_move, ↓op_assign, ↓op_call, ↓op_alloc, ↓op_store, isD_d, ↓fnK_f, ↓call_H, ↓callK_H, ↓allT_nil, ↓allT_cons, ↓allD_nil, ↓allD_cons, ↓td_d, ↓addBox_mk, ↓addRow_mk, ↓setBox_mk, ↓st_bx, ↓st_rw, ↓cells_c, ↓vcells_c, ↓vcells_nl, ↓vcells_o, ↓one_i, ↓vone_d, ↓vone_o, constV_i, constV_n, ↓st_p, ↓bs_, ↓op_bs, ↓bsL_t, ↓stored_mk, ↓sl_nil, ↓sl_cons, ↓st_store_t, ↓sT_move, ↓sT_bs, ↓sT_alloc, ↓beq_some, ↓vsz_int, ↓inO_1, ↓fm_nil, ↓fm_cons, ↓ty3, ↓zb3, ↓ty29, ↓sl29, ↓zb29, ↓ty49, ↓zb49, List.getD_cons_zero, List.getD_cons_succ, List.set_cons_zero, List.set_cons_succ, List.cons_append, List.nil_append, List.append_nil, List.map_cons, List.map_nil, List.length_cons, List.length_nil, List.all_cons, List.all_nil, Bool.true_and, Bool.and_self, Bool.or_true, Bool.true_or, Bool.or_false, Nat.reduceAdd, Nat.reduceSub, Nat.reduceMul, Nat.zero_add, List.replicate, evK_go, reduceIte, decide_true, Nat.reduceEqDiff, Nat.reduceLT, and_self, true_and, Int.zero_add]
  refine OrH.l (OrH.l ⟨by omega, ?_⟩)
  refine loopW (fun st : RS => { tm := slots 42 [(1, .d (.l (next.map U))), (2, .d (U w)), (7, .p 0 0), (8, .p 1 0)], bx := [.d (U st.s), .o 0 st.pre.length st.q.length], rw := [some ⟨1, (st.pre ++ st.q).map nD⟩] })
    (RI a w next) (fun st => 2 * (64 - cnt st.s) + st.q.length) ⟨2 ^ a, [], [a]⟩ ?_ ?_ ?_
  · refine ⟨Nat.pow_lt_pow_right (by omega) ha', Nat.testBit_two_pow_self, ?_, fun j hj => ?_, fun j hj => ?_, fun x hx hxq c h1 h2 => ?_⟩
    · exact List.countP_pos_iff.2 ⟨a, by simpa using ha', Nat.testBit_two_pow_self⟩
    · by_cases hj' : j = a
      · subst hj'; exact .refl
      · simp only at hj; rw [Nat.testBit_two_pow_of_ne (fun e => hj' e.symm)] at hj; cases hj
    · simp at hj; subst hj; exact Nat.testBit_two_pow_self
    · by_cases hj' : x = a
      · exact absurd (by simp [hj']) hxq
      · simp only at hx; rw [Nat.testBit_two_pow_of_ne (fun e => hj' e.symm)] at hx; cases hx
  · refine Wkn.of [0, 1] [some 0] ?_
    simp (implicitDefEqProofs := false) (dsimp := false) only [nD, ↓vcells_c, ↓vcells_o, List.getD_cons_zero, List.getD_cons_succ, List.set_cons_zero, List.set_cons_succ, List.nil_append, List.map_cons, List.map_nil, List.length_cons, List.length_nil, Bool.and_self, Nat.reduceAdd, Nat.reduceSub, Nat.reduceMul, Nat.zero_add, List.replicate, evK_go, reduceIte, Nat.reduceEqDiff, Nat.reduceLT, and_self, Int.zero_add, List.foldl_cons, List.foldl_nil, slots, wkL_nil, wkL_cons, wkB_nil, wkB_cons, wkR_nil, wkR_some, wkV_j, wkV_d, wkV_o, wkV_p, frz_d, oK_zs, pK_z, pK_s, reduceCtorEq]
  · rintro ⟨s, pre, q⟩ hI
    simp (implicitDefEqProofs := false) (dsimp := false) only [slots, ↓optK_some, ↓rwK_mk_, ↓nthK_H, ↓nthH_zero, ↓aw_cond, ↓aw_seq, ↓aw_reg, ↓Qseq_n, ↓ops_nil, ↓ops_cons, ↓eval_tmp, ↓eval_int, ↓put_some, ↓bK_b, ↓lenK_o, ↓binE_i, ↓bi_gtr, ↓ldK_p, ↓op_load, ↓op_bin, ↓op_len, ↓vcells_o, ↓ty29, ↓sl29, List.getD_cons_zero, List.getD_cons_succ, List.set_cons_zero, List.set_cons_succ, Nat.reduceAdd, Nat.reduceSub, Nat.reduceMul, List.replicate, evK_go, reduceIte, Nat.reduceEqDiff, Nat.reduceLT, List.foldl_cons, List.foldl_nil]
    refine cdK_dec (fun h => ?_) (fun h => ?_)
    · cases q with
      | nil => simp at h
      | cons b q =>
        simp (implicitDefEqProofs := false) (dsimp := false) only [List.length_cons, List.map_append, List.map_cons, nD, ↓optK_some, ↓rwK_mk_, ↓atK_H, ↓atH_map, ↓atH_appmap, ↓nthK_H, ↓nthH_zero, ↓aw_seq, ↓aw_block, ↓aw_skip, ↓aw_reg, ↓aw_draw, ↓Qseq_n, ↓ops_nil, ↓ops_cons, ↓eval_tmp, ↓eval_int, ↓eval_func, ↓put_some, ↓put_none, ↓iK_i, ↓ev_move, ↓ev_load, ↓ev_bin, ↓ev_ia, ↓optI_none, ↓optI_some, ↓binE_i, ↓bi_and, ↓bi_andNot, ↓ldK_q, ↓ldK_p, ↓ldK_e, ↓iaK_l, ↓iaK_o, ↓sliK_o, ↓op_assign, ↓op_load, ↓op_ia, ↓op_slice, ↓op_store, isD_d, ↓fnK_f, ↓callKQ_H, ↓allT_nil, ↓allT_cons, ↓td_d, ↓draw_H, ↓h_cons, ↓ldH_n, ↓q_call, ↓q_move, ↓q_load, ↓q_bin, ↓q_ia, ↓il_move, ↓il_load, ↓il_bin, ↓il_ia, ↓il_call, ↓setBox_mk, ↓st_bx, ↓row_sz, ↓row_xs, ↓cells_c, ↓vcells_c, ↓vcells_o, ↓vone_o, ↓st_p, ↓hd_cons, ↓ty3, ↓ty29, ↓sl29, ↓sl45, ↓ty49, List.getD_cons_zero, List.getD_cons_succ, List.set_cons_zero, List.set_cons_succ, List.append_nil, List.map_cons, List.length_cons, List.length_nil, List.all_cons, List.all_nil, Bool.true_and, Bool.and_self, Nat.reduceAdd, Nat.reduceSub, Nat.reduceMul, Nat.zero_add, Nat.add_zero, Int.toNat_natCast, Int.toNat_zero, Int.toNat_one, evK_go, reduceIte, Nat.reduceEqDiff, Nat.reduceLT, and_self, true_and, Option.getD_none, Option.getD_some, Int.zero_add, Int.cast_ofNat_Int, Int.natCast_add, Int.natCast_nonneg]
        refine ⟨⟨by omega, by omega⟩, ⟨by omega, by omega⟩, ?_⟩
        obtain ⟨hI1, hI2, hI6, hI3, hI4, hI5⟩ := hI
        simp (implicitDefEqProofs := false) (dsimp := false) only [List.length_cons] at hI6
        have hc64 := cnt_le s
        simp only at hI1 hI2 hI3 hI4 hI5
        have hsb : s.testBit b = true := hI4 b (by simp)
        have hb : b < next.length := by
          rcases hI3 b hsb with _ | ⟨_, _, h2⟩
          · exact ha
          · exact low_lt hw h2
        have hnb : next.getD b default < 2 ^ 64 := hn _ (getD_mem hb)
        have hand : next.getD b default &&& w < 2 ^ 64 := Nat.lt_of_le_of_lt Nat.and_le_left hnb
        simp (implicitDefEqProofs := false) (dsimp := false) only [each_callQ, hb, hnb, hw', hand, hI1, ↓aw_block, ↓aw_rng, ↓Qseq_n, ↓put_some, ↓h_nil, List.set_cons_zero, List.set_cons_succ, Bool.true_and, Bool.and_self, Bool.true_or, Nat.reduceAdd, Nat.reduceSub, Nat.reduceMul, evK_go, reduceIte, Nat.reduceEqDiff, Nat.reduceLT, and_self, true_and]
        refine OrH.l ⟨DrawH.of follows_mixed (by kernel_rfl), OrH.l (OrH.l ?_)⟩
        have hd : dif (next.getD b default &&& w) s < 2 ^ 64 := dif_lt hand
        have e1 : ((q.length : Int) + 1 - 1).toNat = q.length := by omega
        refine rangeW (slots 42 [(1, .d (.l (next.map U))), (2, .d (U w)), (7, .p 0 0), (8, .p 1 0), (31, .d (.f (.func 40) [.q [U (dif (next.getD b default &&& w) s)]]))])
          (fun st : RS => [.d (U st.s), .o 0 st.pre.length st.q.length]) (fun st : RS => [some ⟨1, (st.pre ++ st.q).map nD⟩]) (fun ys st => ∃ P : List Nat, ys = P.map Int.ofNat ∧ st.s = addAll s P ∧ st.q = q ++ P) ⟨s, pre ++ [b], q⟩
          (by simp [slots]) (each_iter _ hd) ?_ ⟨[], rfl, rfl, by simp⟩ ?_ ?_ ?_
        · simp (implicitDefEqProofs := false) (dsimp := false) only [slots, ↓eval_tmp, List.getD_cons_zero, List.getD_cons_succ, List.set_cons_zero, List.set_cons_succ, Nat.reduceAdd, Nat.reduceSub, Nat.reduceMul, List.replicate, evK_go, reduceIte, Nat.reduceEqDiff, Nat.reduceLT, List.foldl_cons, List.foldl_nil]
        · refine Wkn.of [0, 1] [some 0] ?_
          simp (implicitDefEqProofs := false) (dsimp := false) only [e1, nD, List.map_append, List.length_append, List.append_assoc, ↓vcells_c, ↓vcells_o, List.getD_cons_zero, List.getD_cons_succ, List.set_cons_zero, List.set_cons_succ, List.cons_append, List.nil_append, List.map_cons, List.length_cons, List.length_nil, Bool.and_self, Nat.reduceAdd, Nat.reduceSub, Nat.reduceMul, Nat.zero_add, List.replicate, evK_go, reduceIte, Nat.reduceEqDiff, Nat.reduceLT, and_self, Int.zero_add, List.foldl_cons, List.foldl_nil, slots, wkL_nil, wkL_cons, wkB_nil, wkB_cons, wkR_nil, wkR_some, wkV_j, wkV_d, wkV_o, wkV_p, frz_d, oK_zs, pK_z, pK_s, reduceCtorEq]
        · rintro ys x ⟨s', pre', q'⟩ hpx ⟨P, rfl, hs', hq'⟩
          obtain ⟨P', c, hP, rfl, hc⟩ := prefix_map hpx
          obtain rfl : P = P' := ofNat_inj hP
          simp only at hs' hq'
          subst hs' hq'
          simp (implicitDefEqProofs := false) (dsimp := false) only [slots, with_call, ↓optK_some, ↓rwK_mk_, ↓nthK_H, ↓nthH_zero, ↓aw_seq, ↓aw_block, ↓aw_reg, ↓Qseq_n, ↓Qblk_n, ↓ops_nil, ↓ops_cons, ↓eval_tmp, ↓eval_func, ↓put_some, ↓put_none, ↓dK_d, ↓ldK_p, ↓op_move, ↓op_assign, ↓op_load, ↓op_append, ↓op_call, ↓op_store, isD_d, ↓fnK_f, ↓call_H, ↓callK_H, ↓allT_nil, ↓allT_cons, ↓allD_nil, ↓allD_cons, ↓td_d, ↓setBox_mk, ↓app_mk, ↓st_bx, ↓row_sz, ↓row_xs, kill_d, kill_j, kill_p, kill_o, ↓cells_c, ↓vcells_c, ↓vcells_j, ↓vcells_o, ↓one_i, ↓vone_d, ↓vone_o, ↓st_p, ↓ap_, ↓ap_o, ↓src_l, ↓bs_, ↓op_bs, ↓bsL_f, ↓stored_mk, ↓sl_nil, ↓sl_cons, ↓st_store_t, ↓sT_move, ↓sT_load, ↓sT_bs, ↓sT_call, ↓beq_some, ↓vsz_int, ↓inO_1, ↓fm_nil, ↓fm_cons, ↓Qn_n, ↓Qrd_n, ↓back_mk, ↓ty3, ↓zb3, ↓ty29, ↓sl29, ↓ty49, List.getD_cons_zero, List.getD_cons_succ, List.set_cons_zero, List.set_cons_succ, List.append_nil, List.map_cons, List.map_nil, List.length_cons, List.length_nil, List.length_map, List.all_cons, List.all_nil, Bool.true_and, Bool.and_self, Bool.true_or, Bool.or_false, Nat.reduceAdd, Nat.reduceSub, Nat.reduceMul, Nat.zero_add, List.replicate, evK_go, reduceIte, decide_false, Nat.reduceEqDiff, Nat.reduceLT, and_self, true_and, Int.zero_add, List.foldl_cons, List.foldl_nil]
          have hPl : P.length + 1 ≤ 64 := by
            have := hc.length_le
            have := pts_len (dif (next.getD b default &&& w) s)
            simp (implicitDefEqProofs := false) (dsimp := false) only [List.length_append, List.length_cons, List.length_nil] at *
            omega
          have hPm : ∀ x ∈ P, x < 64 := fun x hx => ((pts_mem _ _).1 (hc.subset (by simp [hx]))).1
          have hc' : c < 64 := ((pts_mem _ _).1 (hc.subset (by simp))).1
          refine OrH.l (OrH.l ⟨⟨addAll_lt s P hI1 hPm, hc'⟩, by omega, ⟨by simp, by simp, by simp (implicitDefEqProofs := false) (dsimp := false) only [List.length_append]; omega, by simp (implicitDefEqProofs := false) (dsimp := false) only [List.length_append]; omega⟩, ⟨addAll s (P ++ [c]), [], q ++ (P ++ [c])⟩, ⟨P ++ [c], by simp, rfl, rfl⟩, ?_⟩)
          refine Wkn.of [0, 1] [some 0] ?_
          rw [List.map_append, drop_appmap]
          simp (implicitDefEqProofs := false) (dsimp := false) only [addAll_snoc, nD, List.map_append, List.length_append, List.append_assoc, Nat.add_assoc, ↓vcells_c, ↓vcells_o, List.getD_cons_zero, List.getD_cons_succ, List.nil_append, List.map_cons, List.map_nil, List.length_cons, List.length_nil, Bool.and_self, Nat.reduceAdd, Nat.reduceSub, Nat.reduceMul, Nat.zero_add, evK_go, reduceIte, Nat.reduceEqDiff, Nat.reduceLT, and_self, Int.zero_add, slots, wkL_nil, wkL_cons, wkB_nil, wkB_cons, wkR_nil, wkR_some, wkV_j, wkV_d, wkV_o, wkV_p, frz_d, oK_zs, pK_z, pK_s, reduceCtorEq]
        · rintro ⟨s', pre', q'⟩ ⟨P, hP, hs', hq'⟩
          obtain rfl : pts (dif (next.getD b default &&& w) s) = P := ofNat_inj hP
          simp only at hs' hq'
          subst hs' hq'
          simp (implicitDefEqProofs := false) (dsimp := false) only [slots, ↓nthK_H, ↓nthH_zero, ↓aw_seq, ↓aw_reg, ↓Qseq_n, ↓Qblk_n, ↓ops_nil, ↓ops_cons, ↓eval_tmp, ↓put_some, ↓put_none, ↓ldK_p, ↓op_load, ↓op_alloc, ↓op_store, ↓addBox_mk, ↓setBox_mk, ↓st_bx, ↓vcells_nl, ↓vcells_o, ↓vone_o, constV_n, ↓st_p, ↓ty29, ↓zb29, List.getD_cons_zero, List.getD_cons_succ, List.set_cons_zero, List.set_cons_succ, List.cons_append, List.nil_append, List.length_cons, List.length_nil, List.all_cons, List.all_nil, Bool.true_and, Bool.and_self, Nat.reduceAdd, Nat.reduceSub, Nat.reduceMul, Nat.zero_add, List.replicate, evK_go, reduceIte, Nat.reduceEqDiff, Nat.reduceLT, and_self, true_and, Int.zero_add, List.foldl_cons, List.foldl_nil]
          have hdb : ∀ j, (dif (next.getD b default &&& w) s).testBit j = true ↔ ((next.getD b default).testBit j = true ∧ w.testBit j = true) ∧ s.testBit j = false := fun j => by
            rw [dif_bit, Nat.testBit_and]
            cases (next.getD b default).testBit j <;> cases w.testBit j <;> cases s.testBit j <;> simp
          have hca := cnt_add s (dif (next.getD b default &&& w) s) (fun j hj => ((hdb j).1 hj).2)
          refine ⟨⟨addAll s (pts (dif (next.getD b default &&& w) s)), pre', q ++ pts (dif (next.getD b default &&& w) s)⟩, ⟨?_, ?_, ?_, ?_, ?_, ?_⟩, ?_, ?_⟩
          · exact addAll_lt _ _ hI1 (fun c hc => ((pts_mem _ _).1 hc).1)
          · exact (addAll_bit _ _ _).2 (.inl hI2)
          · simp (implicitDefEqProofs := false) (dsimp := false) only [List.length_append]; omega
          · intro j hj
            rcases (addAll_bit _ _ _).1 hj with h1 | h1
            · exact hI3 j h1
            · have := (hdb j).1 ((pts_mem _ _).1 h1).2
              exact .step (hI3 b hsb) this.1.1 this.1.2
          · intro j hj
            rcases List.mem_append.1 hj with h1 | h1
            · exact (addAll_bit _ _ _).2 (.inl (hI4 j (by simp [h1])))
            · exact (addAll_bit _ _ _).2 (.inr h1)
          · intro x hx hxq c h1 h2
            have hxq1 : x ∉ q := fun h' => hxq (List.mem_append_left _ h')
            have hxq2 : x ∉ pts (dif (next.getD b default &&& w) s) := fun h' => hxq (List.mem_append_right _ h')
            have hxs : s.testBit x = true := ((addAll_bit _ _ _).1 hx).resolve_right hxq2
            refine (addAll_bit _ _ _).2 ?_
            by_cases hxb : x = b
            · subst hxb
              cases h3 : s.testBit c with
              | true => exact .inl rfl
              | false => exact .inr ((pts_mem _ _).2 ⟨Nat.lt_of_lt_of_le (low_lt hw h2) hlen, (hdb c).2 ⟨⟨h1, h2⟩, h3⟩⟩)
            · exact .inl (hI5 x hxs (by simp [hxb, hxq1]) c h1 h2)
          · have := cnt_le (addAll s (pts (dif (next.getD b default &&& w) s)))
            simp (implicitDefEqProofs := false) (dsimp := false) only [List.length_append]; omega
          · refine Wkn.of [0, 2] [some 0] ?_
            simp (implicitDefEqProofs := false) (dsimp := false) only [List.map_append, ↓vcells_c, ↓vcells_o, List.getD_cons_zero, List.getD_cons_succ, List.length_cons, List.length_nil, Bool.and_self, Nat.reduceAdd, Nat.reduceSub, Nat.reduceMul, Nat.zero_add, evK_go, reduceIte, Nat.reduceEqDiff, Nat.reduceLT, and_self, Int.zero_add, slots, wkL_nil, wkL_cons, wkB_nil, wkB_cons, wkR_nil, wkR_some, wkV_j, wkV_d, wkV_o, wkV_p, frz_d, oK_zs, pK_z, pK_s, reduceCtorEq]
    · cases q with
      | cons b q => simp at h
      | nil =>
        obtain ⟨hI1, hI2, hI6, hI3, hI4, hI5⟩ := hI
        simp only at hI1 hI2 hI3 hI4 hI5
        have : s = reach next w a := reach_eq hn ha' fun j => ⟨hI3 j, fun h => by
          induction h with
          | refl => exact hI2
          | step h h1 h2 ih => exact hI5 _ ih (by simp) _ h1 h2⟩
        rw [← this]
        simp (implicitDefEqProofs := false) (dsimp := false) only [↓nthK_H, ↓nthH_zero, ↓aw_seq, ↓aw_exit, ↓aw_ret, ↓aw_reg, ↓Qseq_n, ↓Qseq_x, ↓Qblk_x, ↓Qret_r, ↓ops_nil, ↓ops_cons, ↓eval_tmp, ↓put_some, ↓ldK_p, ↓op_assign, ↓op_load, ↓td_d, ↓ret_1, ↓vcells_c, ↓ty49, List.getD_cons_zero, List.getD_cons_succ, List.set_cons_zero, List.set_cons_succ, List.append_nil, List.length_nil, Nat.reduceAdd, Nat.reduceSub, Nat.reduceMul, evK_go, reduceIte, Nat.reduceEqDiff, Nat.reduceLT, Int.cast_ofNat_Int]
end Go.Proofs

namespace Go.Proofs
open Go.Aw
set_option linter.unusedSimpArgs false
set_option maxRecDepth 10000
/-! From integers to points. -/
def natP (p : Int × Int) : Nat × Nat := (p.1.toNat, p.2.toNat)
def natL (l : List (Int × Int)) : List (Nat × Nat) := l.map natP
theorem firstErr_zero {f : Int × Int → Int} {l : List (Int × Int)} (h : firstErr f l = 0) : ∀ p ∈ l, f p = 0 := by
  induction l with
  | nil => intro p hp; cases hp
  | cons q l ih =>
    intro p hp
    by_cases hq : f q = 0
    · have h2 : firstErr f l = 0 := by simpa [firstErr, hq] using h
      rcases List.mem_cons.1 hp with rfl | hp
      · exact hq
      · exact ih h2 p hp
    · simp [firstErr, hq] at h
structure Ok (n : Int) (l : List (Int × Int)) : Prop where
  n0 : n = (n.toNat : Int)
  lo : 1 ≤ n.toNat
  hi : n.toNat ≤ 8
  len : l.length ≤ 24
  rng : ∀ p ∈ l, 0 ≤ p.1 ∧ 0 ≤ p.2
  good : Good n.toNat (natL l)
  ne : ∀ p ∈ natL l, p.1 ≠ p.2
theorem chk_ok {n : Int} {l : List (Int × Int)} (h : chk n l = 0) : Ok n l := by
  unfold chk at h
  split at h
  · cases h
  · rename_i hn
    split at h
    · cases h
    · rename_i hl
      have hn' : 1 ≤ n ∧ n ≤ 8 := by simpa [inB] using hn
      have hp : ∀ p ∈ l, (0 ≤ p.1 ∧ p.1 ≤ n - 1) ∧ (0 ≤ p.2 ∧ p.2 ≤ n - 1) ∧ p.1 ≠ p.2 := fun p hp => by
        have := firstErr_zero h p hp
        unfold lineErr at this
        split at this
        · cases this
        · rename_i h1
          split at this
          · cases this
          · rename_i h2
            simp [inB] at h1
            exact ⟨⟨h1.1, h1.2.1⟩, h1.2.2, h2⟩
      refine ⟨by omega, by omega, by omega, by omega, fun p h' => ⟨(hp p h').1.1, (hp p h').2.1.1⟩, fun p h' => ?_, fun p h' => ?_⟩
      · obtain ⟨q, hq, rfl⟩ := List.mem_map.1 h'
        have := hp q hq
        simp (implicitDefEqProofs := false) (dsimp := false) only [natP]; omega
      · obtain ⟨q, hq, rfl⟩ := List.mem_map.1 h'
        have := hp q hq
        simp (implicitDefEqProofs := false) (dsimp := false) only [natP]; omega
theorem lnD_nat {l : List (Int × Int)} (h : ∀ p ∈ l, 0 ≤ p.1 ∧ 0 ≤ p.2) : l.map lnD = (natL l).map lnN := by
  unfold natL
  rw [List.map_map]
  refine List.map_congr_left fun p hp => ?_
  have := h p hp
  show D.s _ = D.s _
  simp (implicitDefEqProofs := false) (dsimp := false) only [natP, Int.toNat_of_nonneg this.1, Int.toNat_of_nonneg this.2]
theorem natL_len (l : List (Int × Int)) : (natL l).length = l.length := by simp [natL]
theorem Ok.out {n : Int} {l : List (Int × Int)} (h : Ok n l) : n.toNat ≤ 64 ∧ (natL l).length < 2 ^ 62 ∧ ∀ p ∈ natL l, p.1 < n.toNat ∧ p.2 < 64 := by
  refine ⟨by have := h.hi; omega, by rw [natL_len]; have := h.len; omega, fun p hp => ?_⟩
  have := h.good p hp
  have := h.hi
  omega
theorem gcheck_spec (n : Int) (l : List (Int × Int)) (hpre : l.length < 2 ^ 62) : FnD Try.prog 20 [I .i64 n, .l (l.map lnD)] (erD (chk n l)) := by
  refine FnD.go Try.func20 rfl rfl Try.results20 Try.ntmps20 ?_
  simp (implicitDefEqProofs := false) (dsimp := false) only [↓aw_seq, ↓aw_reg, ↓Qseq_n, ↓ops_nil, ↓ops_cons, ↓eval_tmp, ↓eval_func, ↓put_some, ↓op_move, ↓op_assign, ↓op_call, isD_d, ↓fnK_f, ↓call_H, ↓callK_H, ↓allT_nil, ↓allT_cons, ↓td_d, List.getD_cons_zero, List.getD_cons_succ, List.set_cons_zero, List.set_cons_succ, List.cons_append, List.nil_append, List.append_nil, List.map_cons, List.map_nil, List.length_cons, List.length_nil, List.all_cons, List.all_nil, Bool.and_self, Nat.reduceAdd, Nat.reduceSub, Nat.reduceMul, Nat.zero_add, List.replicate, evK_go, reduceIte, Nat.reduceEqDiff, Nat.reduceLT, and_self, Int.zero_add]
  simp (implicitDefEqProofs := false) (dsimp := false) only [check_call, ↓aw_ret, ↓Qseq_n, ↓Qret_r, ↓ops_nil, ↓ops_cons, ↓eval_tmp, ↓put_some, ↓op_assign, ↓td_d, ↓ret_1, List.getD_cons_zero, List.getD_cons_succ, List.set_cons_zero, List.set_cons_succ, Bool.and_true, Bool.and_self, Bool.true_or, Nat.reduceAdd, Nat.reduceSub, Nat.reduceMul, evK_go, reduceIte, Nat.reduceEqDiff, Nat.reduceLT, and_self, and_true]
  exact OrH.l (OrH.l hpre)
theorem gcheck_call (n : Int) (l : List (Int × Int)) (pure : Bool) (σ : St) (dst : Option Tmp) (K : St → Prop) : CallH Try.prog 20 [I .i64 n, .l (l.map lnD)] pure σ dst (.mk : Hid K) = OrH ((l.length < 2 ^ 62) ∧ (pure || D.flat (erD (chk n l))) = true ∧ evK (σ.put dst (.d (erD (chk n l)))) (.mk : Hid K)) (.mk : Hid (CallH Try.prog 20 [I .i64 n, .l (l.map lnD)] pure σ dst (.mk : Hid K))) := CallH.eq (gcheck_spec n l) pure σ dst K
def isI (P : Program) (t : TypeId) : Bool := match P.underlying t with
  | some (.interface _) => true
  | _ => false
theorem isI_inv {P : Program} {t : TypeId} (h : isI P t = true) : ∃ ms, P.underlying t = some (.interface ms) := by
  unfold isI at h
  split at h
  · rename_i ms e; exact ⟨ms, e⟩
  · cases h
theorem u25 : ∃ ms, Try.prog.underlying 24 = some (.interface ms) := isI_inv (by kernel_rfl)
theorem er_neq (e : Int) (x : Operand) (C : V → Prop) : binE Try.prog .neq 24 x (.const .nilIface) (.d (erD e)) (.d (.c .nilIface)) C = C (.d (Bo (!decide (e = 0)))) := by
  by_cases h : e = 0
  · subst h; obtain ⟨ms, h⟩ := u25; exact binX (nil_neq h x) C
  · simp (implicitDefEqProofs := false) (dsimp := false) only [erD, h, if_false]; obtain ⟨ms, h⟩ := u25; exact binX (some_neq h x _ _ _) C
theorem er_flat (e : Int) : D.flat (erD e) = true := by unfold erD; split <;> rfl
theorem rflat_U (n : Nat) (l : List Nat) : Res.flat (.row n (l.map U)) = true := by
  simp [Res.flat, D.flat]
end Go.Proofs

namespace Go.Proofs
open Go.Aw
set_option linter.unusedSimpArgs false
set_option maxRecDepth 10000
/-- Does a number stand twice? -/
def twice : List Int → Bool
  | l => !decide l.Nodup
end Go.Proofs

namespace Go.Proofs
open Go.Aw
set_option linter.unusedSimpArgs false
def two (fs : List Field) : Bool := match fs with
  | [f0, f1] => f0.name != "_" && f1.name != "_" && f0.type == 3 && f1.type == 3 && f0.offset == 0 && f1.offset == 1
  | _ => false
end Go.Proofs

namespace Go.Proofs
open Go.Aw
set_option linter.unusedSimpArgs false
set_option maxRecDepth 10000
/-- A list of numbers as data. -/
def liD (x : List Int) : D := .l (x.map (I .i64))
end Go.Proofs

namespace Go.Proofs
open Go.Aw
set_option linter.unusedSimpArgs false
set_option maxRecDepth 10000
end Go.Proofs

namespace Go.Proofs
open Go.Aw
set_option linter.unusedSimpArgs false
set_option maxRecDepth 10000
/-- Where ways go from each point. -/
def closeAll (n : Int) (l : List (Int × Int)) : List (List Int) := if chk n l = 0 then (war n.toNat (natL l)).map ptsI else []
theorem Ok.cr {n : Int} {l : List (Int × Int)} (h : Ok n l) : n.toNat ≤ 64 ∧ (natL l).length < 2 ^ 62 ∧ Good n.toNat (natL l) := ⟨h.out.1, h.out.2.1, h.good⟩
end Go.Proofs

namespace Go.Proofs
open Go.Aw
set_option linter.unusedSimpArgs false
set_option maxRecDepth 10000
def topoE (n : Int) (l : List (Int × Int)) : Int := if chk n l = 0 then (if (topoO n.toNat (natL l)).isSome then 0 else 5) else chk n l
def topoL (n : Int) (l : List (Int × Int)) : List Nat := if chk n l = 0 then (topoO n.toNat (natL l)).getD [] else []
theorem TI.zero {n left : Nat} {l : List (Nat × Nat)} {acc : List Nat} (hl : acc.length = n) (h : TI n l left acc) : left = 0 := by
  apply Nat.eq_of_testBit_eq
  intro i
  rw [Nat.zero_testBit, ← Bool.not_eq_true]
  intro hi
  have hni : i ∉ acc := fun h' => by have := (h.out i h').2; rw [hi] at this; cases this
  have hsub : ∀ x ∈ i :: acc, x ∈ List.range n := fun x hx => by
    rcases List.mem_cons.1 hx with rfl | hx
    · simpa using h.lt x hi
    · simpa using (h.out x hx).1
  have := pig (List.nodup_cons.2 ⟨hni, h.nodup⟩) hsub
  simp at this; omega
structure TSt where
  m : Nat
  left : Nat
  acc : List Nat
end Go.Proofs

namespace Go.Proofs
open Go.Aw
set_option linter.unusedSimpArgs false
set_option maxRecDepth 10000
def fewR (n : Int) (l : List (Int × Int)) : List (Nat × Nat) := if topoE n l = 0 then few n.toNat (natL l) else []
def fewK (n : Nat) (l : List (Nat × Nat)) (k : Nat) : List (Nat × Nat) := (List.range k).flatMap fun i => (pts (fewB n l i)).map fun j => (i, j)
end Go.Proofs

namespace Go.Proofs
open Go.Aw
set_option linter.unusedSimpArgs false
set_option maxRecDepth 10000
def oD (m : Nat) (L : List (Nat × Nat)) (f : Nat) (P : List Nat) : List Nat := (List.range m).map fun i => if i ∈ P then ovS m L f i else 0
def ovP (m : Nat) (L : List (Nat × Nat)) (f c k : Nat) : Nat := addAll 0 ((List.range k).filter (ovC m L f c))
/-- What is wrong with lines and a point. -/
def domE (n : Int) (l : List (Int × Int)) (f : Int) : Int := if chk n l = 0 then (if inB f 0 (n - 1) then 0 else 1) else chk n l
def domOf (n : Int) (l : List (Int × Int)) (f : Int) : List (List Int) := if domE n l f = 0 then (ovL n.toNat (natL l) f.toNat).map ptsI else []
def domLast (n : Int) (l : List (Int × Int)) (f : Int) : List Int := if domE n l f = 0 then lastL n.toNat (ovL n.toNat (natL l) f.toNat) else []
end Go.Proofs

namespace Go.Proofs
open Go.Aw
set_option linter.unusedSimpArgs false
set_option maxRecDepth 10000
def strongR (n : Int) (l : List (Int × Int)) : List Nat := if chk n l = 0 then strongP n.toNat (natL l) else []
end Go.Proofs

namespace Go.Proofs
open Go.Aw
set_option linter.unusedSimpArgs false
set_option maxRecDepth 10000
def foldO (n : Int) (l : List (Int × Int)) : List Nat := if chk n l = 0 then fOut n.toNat (natL l) else []
def foldL (n : Int) (l : List (Int × Int)) : List (Nat × Nat) := if chk n l = 0 then fLines n.toNat (natL l) else []
end Go.Proofs

namespace Go.Proofs
open Go.Aw
set_option linter.unusedSimpArgs false
set_option maxRecDepth 10000
def lastB (m : Nat) (W : List Nat) (k : Nat) : List Int := (List.range m).map fun i => if i < k then lastI W i else 0
end Go.Proofs

namespace Go.Proofs
open Go.Aw
set_option linter.unusedSimpArgs false
set_option maxRecDepth 10000
theorem sym_take {n : Nat} {L : List (Nat × Nat)} {k : Nat} (h : k < L.length) : outS n (L ++ (L.take (k + 1)).map flip) = outF (outS n (L ++ (L.take k).map flip)) (flip (L.getD k default)) := by
  rw [take_succ_getD h, List.map_append, ← List.append_assoc]
  exact outS_snoc _ _ _
theorem beside_spec (n : Nat) (L : List (Nat × Nat)) (hpre : n ≤ 64 ∧ L.length < 2 ^ 62 ∧ Good n L) : FnR Try.prog 21 [I .i64 (n : Int), .l (L.map lnN)] 1 ((outS n (symL L)).map U) := by
  obtain ⟨hn, hl, hg⟩ := hpre
  have hout : n ≤ 64 ∧ L.length < 2 ^ 62 ∧ ∀ p ∈ L, p.1 < n ∧ p.2 < 64 := ⟨hn, hl, fun p hp => by have := hg p hp; omega⟩
  refine FnR.go Try.func21 rfl rfl Try.results21 Try.ntmps21 ?_
  simp (implicitDefEqProofs := false) (dsimp := false) only [↓aw_seq, ↓aw_reg, ↓Qseq_n, ↓ops_nil, ↓ops_cons, ↓eval_tmp, ↓eval_nil, ↓eval_func, ↓put_some, ↓op_move, ↓op_assign, ↓op_call, isD_d, ↓fnK_f, ↓call_H, ↓callK_H, ↓allT_nil, ↓allT_cons, ↓td_d, List.getD_cons_zero, List.getD_cons_succ, List.set_cons_zero, List.set_cons_succ, List.cons_append, List.nil_append, List.append_nil, List.map_cons, List.map_nil, List.length_cons, List.length_nil, List.all_cons, List.all_nil, Bool.and_self, Nat.reduceAdd, Nat.reduceSub, Nat.reduceMul, Nat.zero_add, List.replicate, evK_go, reduceIte, Nat.reduceEqDiff, Nat.reduceLT, and_self, Int.zero_add]
  simp (implicitDefEqProofs := false) (dsimp := false) only [out_call, rflat_U, ↓aw_seq, ↓aw_block, ↓aw_loop, ↓aw_reg, ↓Qseq_n, ↓ops_nil, ↓ops_cons, ↓eval_tmp, ↓eval_int, ↓put_some, ↓lenK_l, ↓op_move, ↓op_assign, ↓op_len, ↓addRow_mk, ↓st_rw, ↓sl22, List.getD_cons_zero, List.getD_cons_succ, List.set_cons_zero, List.set_cons_succ, List.nil_append, List.length_nil, List.length_map, Bool.true_and, Bool.or_true, Nat.reduceAdd, Nat.reduceSub, Nat.reduceMul, evK_go, reduceIte, Nat.reduceEqDiff, Nat.reduceLT, true_and]
  refine OrH.l (OrH.l ⟨hout, ?_⟩)
  have h0 := outS_len n L
  simp (implicitDefEqProofs := false) (dsimp := false) only [h0]
  refine loopW (fun k : Nat => { tm := slots 31 [(5, .o 0 0 n), (11, .d (.l (L.map lnN))), (12, .d (I .i64 L.length)), (13, .d (I .i64 k))], bx := [], rw := [some ⟨1, (outS n (L ++ (L.take k).map flip)).map U⟩] })
    (fun k => k ≤ L.length) (fun k => L.length - k) 0 (by simp) ?_ ?_
  · refine Wkn.of [] [some 0] ?_
    simp (implicitDefEqProofs := false) (dsimp := false) only [List.append_nil, List.getD_cons_zero, List.set_cons_zero, List.set_cons_succ, List.append_nil, List.map_nil, Bool.and_self, Nat.reduceAdd, Nat.reduceSub, Nat.reduceMul, List.replicate, evK_go, reduceIte, Nat.reduceEqDiff, Nat.reduceLT, and_self, List.take_zero, List.foldl_cons, List.foldl_nil, Int.cast_ofNat_Int, slots, wkL_nil, wkL_cons, wkB_nil, wkR_nil, wkR_some, wkV_j, wkV_d, wkV_o, frz_d, oK_zs, reduceCtorEq]
  · intro k hk
    simp (implicitDefEqProofs := false) (dsimp := false) only [slots, ↓aw_cond, ↓aw_seq, ↓aw_reg, ↓Qseq_n, ↓ops_nil, ↓ops_cons, ↓eval_tmp, ↓put_some, ↓bK_b, ↓binE_i, ↓bi_lss, ↓op_bin, List.getD_cons_zero, List.getD_cons_succ, List.set_cons_zero, List.set_cons_succ, Nat.reduceAdd, Nat.reduceSub, Nat.reduceMul, List.replicate, evK_go, reduceIte, Nat.reduceEqDiff, Nat.reduceLT, List.foldl_cons, List.foldl_nil, Int.ofNat_lt]
    refine cdK_dec (fun h => ?_) (fun h => ?_)
    · have hp := hg _ (getD_mem h)
      have hS := outS_len n (L ++ (L.take k).map flip)
      have hlt : ∀ x ∈ outS n (L ++ (L.take k).map flip), x < 2 ^ 64 := outS_lt' hn fun p hp => by
        rcases List.mem_append.1 hp with hp | hp
        · exact hg p hp
        · obtain ⟨q, hq, rfl⟩ := List.mem_map.1 hp
          have := hg q (List.mem_of_mem_take hq)
          exact ⟨this.2, this.1⟩
      have e := sym_take (n := n) h
      generalize outS n (L ++ (L.take k).map flip) = S at hS hlt e ⊢
      generalize hab : L.getD k default = p at hp e
      obtain ⟨a, b⟩ := p
      simp only at hp
      have hbS : b < S.length := by omega
      have hltb := hlt _ (getD_mem hbS)
      have ha64 : a < 64 := by omega
      simp (implicitDefEqProofs := false) (dsimp := false) only [h, lnN, hab, hbS, with_callQ, hltb, ha64, ↓optK_some, ↓rwK_mk_, ↓atK_H, ↓atH_map, ↓nthK_H, ↓nthH_zero, ↓nthH_succ, ↓aw_seq, ↓aw_block, ↓aw_skip, ↓aw_reg, ↓aw_draw, ↓Qseq_n, ↓Qblk_n, ↓ops_nil, ↓ops_cons, ↓eval_tmp, ↓eval_int, ↓eval_func, ↓put_some, ↓put_none, ↓iK_i, ↓dK_d, ↓ev_move, ↓ev_load, ↓ev_fa, ↓ev_ia, ↓binE_i, ↓bi_add, ↓in_i64, ↓ldK_q, ↓ldK_p, ↓ldK_e, ↓faK_p, ↓iaK_l, ↓iaK_o, ↓op_move, ↓op_load, ↓op_bin, ↓op_ia, ↓op_alloc, ↓op_store, isD_d, ↓fnK_f, ↓callKQ_H, ↓allT_nil, ↓allT_cons, ↓td_d, ↓draw_H, ↓h_cons, ↓ldH_t, ↓ldH_n, ↓q_call, ↓q_move, ↓q_load, ↓q_fa, ↓q_ia, ↓il_move, ↓il_load, ↓il_fa, ↓il_ia, ↓il_call, ↓il_store, ↓addBox_mk, ↓setBox_mk, ↓setRow_mk, ↓st_bx, ↓row_sz, ↓row_xs, ↓cells_c, ↓cells_s, ↓vcells_s, ↓one_i, ↓vone_d, constV_a, ↓st_p, ↓st_e, ↓ty3, ↓sl22, ↓ty28, ↓zb28, ↓fd28_0, ↓fd28_1, ↓sl45, ↓ty49, List.getD_cons_zero, List.getD_cons_succ, List.set_cons_zero, List.set_cons_succ, List.nil_append, List.append_nil, List.map_cons, List.map_nil, List.length_cons, List.length_nil, List.all_cons, List.all_nil, Bool.true_and, Bool.and_self, Bool.true_or, Nat.reduceAdd, Nat.reduceSub, Nat.reduceMul, Nat.zero_add, Nat.add_zero, Int.toNat_natCast, evK_go, reduceIte, decide_true, Nat.reduceEqDiff, Nat.reduceLT, and_self, true_and, Int.zero_add, List.take_succ_cons, List.take_nil, Int.ofNat_lt, Int.natCast_nonneg]
      refine ⟨by decide, OrH.l ⟨DrawH.of follows_mixed (by kernel_rfl), by omega, OrH.l (OrH.l ⟨by omega, by omega, k + 1, by omega, by omega, ?_⟩)⟩⟩
      refine Wkn.of [] [some 0] ?_
      simp (implicitDefEqProofs := false) (dsimp := false) only [e, outF, flip, List.map_set, List.getD_cons_zero, List.set_cons_zero, List.set_cons_succ, Bool.and_self, Nat.reduceAdd, Nat.reduceSub, Nat.reduceMul, List.replicate, evK_go, reduceIte, Nat.reduceEqDiff, Nat.reduceLT, and_self, List.foldl_cons, List.foldl_nil, Int.cast_ofNat_Int, Int.natCast_add, slots, wkL_nil, wkL_cons, wkB_nil, wkR_nil, wkR_some, wkV_j, wkV_d, wkV_o, frz_d, oK_zs, reduceCtorEq]
    · obtain rfl : k = L.length := by omega
      rw [List.take_length]
      simp (implicitDefEqProofs := false) (dsimp := false) only [↓optK_some, ↓rwK_mk_, ↓aw_seq, ↓aw_exit, ↓aw_ret, ↓aw_reg, ↓Qseq_n, ↓Qseq_x, ↓Qblk_x, ↓ops_nil, ↓ops_cons, ↓eval_tmp, ↓put_some, ↓op_move, ↓op_assign, ↓row_sz, ↓row_xs, ↓Qrow_r, ↓rowK_o, List.getD_cons_zero, List.getD_cons_succ, List.set_cons_zero, List.set_cons_succ, Bool.true_and, Nat.reduceAdd, Nat.reduceSub, Nat.reduceMul, evK_go, reduceIte, decide_false, Nat.reduceEqDiff, Nat.reduceLT, true_and, Nat.lt_irrefl]
      have h4 := outS_len n (L ++ L.map flip)
      exact List.take_of_length_le (by simp [h4])
theorem beside_callD (n : Nat) (L : List (Nat × Nat)) (pure : Bool) (σ : St) (dst : Option Tmp) (K : St → Prop) : CallH Try.prog 21 [I .i64 (n : Int), .l (L.map lnN)] pure σ dst (.mk : Hid K) = OrH ((n ≤ 64 ∧ L.length < 2 ^ 62 ∧ Good n L) ∧ (pure || D.flat (.l ((outS n (symL L)).map U))) = true ∧ evK (σ.put dst (.d (.l ((outS n (symL L)).map U)))) (.mk : Hid K)) (.mk : Hid (CallH Try.prog 21 [I .i64 (n : Int), .l (L.map lnN)] pure σ dst (.mk : Hid K))) := CallH.eq (fun h => ((fun h => beside_spec n L h) h).data) pure σ dst K
end Go.Proofs

namespace Go.Proofs
open Go.Aw
set_option linter.unusedSimpArgs false
set_option maxRecDepth 10000
def rootR (n : Int) (l : List (Int × Int)) : List Nat := if chk n l = 0 then (List.range n.toNat).map (rootP n.toNat (natL l)) else []
def farR (n : Int) (l : List (Int × Int)) (f : Int) : List Int := if chk n l = 0 then (if inB f 0 (n - 1) = true then farL n.toNat (natL l) f.toNat else []) else []
def farE (n : Int) (l : List (Int × Int)) (f : Int) : Int := if chk n l = 0 then (if inB f 0 (n - 1) = true then 0 else 1) else chk n l
theorem bStart_len (n f : Nat) : (bStart n f).out.length = n := by simp [bStart]
def negK (n k : Nat) : List Int := List.replicate k (-1) ++ List.replicate (n - k) 0
theorem negK_zero (n : Nat) : negK n 0 = List.replicate n 0 := by simp [negK]
theorem negK_all (n : Nat) : negK n n = List.replicate n (-1) := by simp [negK]
theorem negK_len {n k : Nat} (h : k ≤ n) : (negK n k).length = n := by simp [negK]; omega
theorem negK_set {n k : Nat} (h : k < n) : (negK n k).set k (-1) = negK n (k + 1) := by
  refine List.ext_getElem (by simp [negK]; omega) fun i h1 h2 => ?_
  rw [List.getElem_set]
  simp (implicitDefEqProofs := false) (dsimp := false) only [negK, List.getElem_append, List.getElem_replicate, List.length_replicate]
  repeat' split
  all_goals first | rfl | omega
theorem inW_iff {x lo hi : Int} : inB x lo hi = true ↔ lo ≤ x ∧ x ≤ hi := by simp [inB]
structure FI where
  q : Nat
  pre : List Nat
  st : BS
theorem wfrom_spec (n : Int) (l : List (Int × Int)) (f : Int) (hpre : l.length < 2 ^ 62) : FnD Try.prog 24 [I .i64 n, .l (l.map lnD), I .i64 f] (.t [.l ((farR n l f).map (I .i64)), erD (farE n l f)]) := by
  refine FnD.go Try.func24 rfl rfl Try.results24 Try.ntmps24 ?_
  simp (implicitDefEqProofs := false) (dsimp := false) only [↓aw_seq, ↓aw_reg, ↓Qseq_n, ↓ops_nil, ↓ops_cons, ↓eval_tmp, ↓eval_nil, ↓eval_func, ↓put_some, ↓op_move, ↓op_assign, ↓op_call, isD_d, ↓fnK_f, ↓call_H, ↓callK_H, ↓allT_nil, ↓allT_cons, ↓td_d, List.getD_cons_zero, List.getD_cons_succ, List.set_cons_zero, List.set_cons_succ, List.cons_append, List.nil_append, List.append_nil, List.map_cons, List.map_nil, List.length_cons, List.length_nil, List.all_cons, List.all_nil, Bool.and_self, Nat.reduceAdd, Nat.reduceSub, Nat.reduceMul, Nat.zero_add, List.replicate, evK_go, reduceIte, Nat.reduceEqDiff, Nat.reduceLT, and_self, Int.zero_add]
  simp (implicitDefEqProofs := false) (dsimp := false) only [gcheck_call, eval_nilI, ↓er_neq, er_flat, ↓cdK_not, ↓aw_cond, ↓aw_seq, ↓aw_reg, ↓Qseq_n, ↓ops_nil, ↓ops_cons, ↓eval_tmp, ↓put_some, ↓bK_b, ↓op_move, ↓op_assign, ↓op_bin, List.getD_cons_zero, List.getD_cons_succ, List.set_cons_zero, List.set_cons_succ, Bool.true_and, Bool.or_true, Nat.reduceAdd, Nat.reduceSub, Nat.reduceMul, evK_go, reduceIte, Nat.reduceEqDiff, Nat.reduceLT, true_and]
  refine OrH.l (OrH.l ⟨hpre, ?_⟩)
  refine cdK_dec (fun hc => ?_) (fun hc => ?_)
  rotate_left
  · simp (implicitDefEqProofs := false) (dsimp := false) only [farR, farE, hc, ↓aw_seq, ↓aw_ret, ↓aw_reg, ↓Qseq_n, ↓Qseq_r, ↓Qret_r, ↓ops_nil, ↓ops_cons, ↓eval_tmp, ↓eval_nil, ↓put_some, ↓op_move, ↓op_assign, ↓td_d, ↓td_nl, ↓ret_2, List.getD_cons_zero, List.getD_cons_succ, List.set_cons_zero, List.set_cons_succ, List.map_nil, Nat.reduceAdd, Nat.reduceSub, Nat.reduceMul, evK_go, reduceIte, decide_false, Bool.not_false, Nat.reduceEqDiff, Nat.reduceLT]
  have ok := chk_ok hc
  have h8 := ok.hi
  have e0 := ok.n0
  simp (implicitDefEqProofs := false) (dsimp := false) only [within_call, ↓cdK_not, ↓aw_cond, ↓aw_seq, ↓aw_skip, ↓aw_reg, ↓Qseq_n, ↓ops_nil, ↓ops_cons, ↓eval_tmp, ↓eval_int, ↓eval_func, ↓put_some, ↓bK_b, ↓binE_i, ↓bi_sub, ↓in_i64, ↓op_move, ↓op_bin, ↓op_not, ↓op_call, isD_d, ↓fnK_f, ↓call_H, ↓callK_H, ↓allT_nil, ↓allT_cons, ↓td_d, List.getD_cons_zero, List.getD_cons_succ, List.set_cons_zero, List.set_cons_succ, List.append_nil, List.all_cons, List.all_nil, Bool.true_and, Bool.and_self, Bool.true_or, Nat.reduceAdd, Nat.reduceSub, Nat.reduceMul, evK_go, reduceIte, Nat.reduceEqDiff, Nat.reduceLT, and_self, true_and]
  (repeat refine OrH.l ?_)
  refine ⟨by omega, ?_⟩
  (repeat refine OrH.l ?_)
  rw [show farR n l f = (if inB f 0 (n - 1) = true then farL n.toNat (natL l) f.toNat else []) from if_pos hc, show farE n l f = (if inB f 0 (n - 1) = true then 0 else 1) from if_pos hc, lnD_nat ok.rng]
  refine cdK_split (fun hb => ?_) (fun hb => ?_)
  · obtain ⟨hf1, hf2⟩ := inW_iff.1 hb
    have hcr := ok.cr
    rw [if_pos hb, if_pos hb]
    simp (implicitDefEqProofs := false) (dsimp := false) only [hb, ↓optK_some, ↓rwK_mk_, ↓nthK_H, ↓nthH_zero, ↓aw_seq, ↓aw_block, ↓aw_skip, ↓aw_loop, ↓aw_reg, ↓Qseq_n, ↓ops_nil, ↓ops_cons, ↓eval_tmp, ↓eval_int, ↓put_some, ↓put_none, ↓iK_i, ↓dK_d, ↓lenK_o, ↓ldK_p, ↓op_move, ↓op_load, ↓op_len, ↓op_alloc, ↓op_store, ↓op_make, ↓addBox_mk, ↓addRow_mk, ↓setBox_mk, ↓st_bx, ↓st_rw, ↓cells_c, ↓vcells_nl, ↓vcells_o, ↓one_i, ↓vone_o, constV_i, constV_n, ↓st_p, ↓mk_, ↓vsz_int, ↓ty3, ↓zb3, ↓ty29, ↓sl29, ↓zb29, List.getD_cons_zero, List.getD_cons_succ, List.set_cons_zero, List.set_cons_succ, List.nil_append, List.length_cons, List.length_nil, List.all_cons, List.all_nil, Bool.and_true, Bool.true_and, Bool.and_self, Nat.reduceAdd, Nat.reduceSub, Nat.reduceMul, Nat.zero_add, evK_go, reduceIte, Bool.not_true, Nat.reduceEqDiff, Nat.reduceLT, and_self, true_and, and_true, Int.zero_add]
    refine ⟨⟨by omega, by omega, by decide⟩, ?_⟩
    rw [hc]
    have ef : f = (f.toNat : Int) := by omega
    have hfm : f.toNat < n.toNat := by omega
    clear ok hc hpre hb hf1 hf2
    generalize n.toNat = m at *
    generalize f.toNat = f' at *
    subst e0 ef
    generalize natL l = L at *
    have hsg := symL_good hcr.2.2
    have hSl := outS_len m (symL L)
    have hSt := outS_lt' (n := m) (by omega) hsg
    refine loopW (fun k : Nat => { tm := slots 79 [(0, .d (I .i64 (m : Int))), (1, .d (.l (L.map lnN))), (2, .d (I .i64 (f' : Int))), (9, .p 0 0), (29, .d (I .i64 (m : Int))), (30, .d (I .i64 k))], bx := [.o 0 0 m], rw := [some ⟨1, (negK m k).map (I .i64)⟩] })
      (fun k => k ≤ m) (fun k => m - k) 0 (by simp) ?_ ?_
    · refine Wkn.of [0] [some 0] ?_
      simp (implicitDefEqProofs := false) (dsimp := false) only [negK_zero, List.map_replicate, ↓vcells_o, List.getD_cons_zero, List.set_cons_zero, List.set_cons_succ, List.length_cons, List.length_nil, Bool.and_self, Nat.reduceAdd, Nat.reduceSub, Nat.reduceMul, Nat.zero_add, List.replicate, evK_go, reduceIte, decide_true, Bool.not_true, Nat.reduceEqDiff, Nat.reduceLT, and_self, Int.zero_add, List.foldl_cons, List.foldl_nil, Int.cast_ofNat_Int, slots, wkL_nil, wkL_cons, wkB_nil, wkB_cons, wkR_nil, wkR_some, wkV_j, wkV_d, wkV_o, wkV_p, frz_d, oK_zs, pK_z, reduceCtorEq]
    · intro k hk
      have hnl := negK_len hk
      simp (implicitDefEqProofs := false) (dsimp := false) only [slots, ↓aw_cond, ↓aw_seq, ↓aw_reg, ↓Qseq_n, ↓ops_nil, ↓ops_cons, ↓eval_tmp, ↓put_some, ↓bK_b, ↓binE_i, ↓bi_lss, ↓op_bin, List.getD_cons_zero, List.getD_cons_succ, List.set_cons_zero, List.set_cons_succ, Nat.reduceAdd, Nat.reduceSub, Nat.reduceMul, List.replicate, evK_go, reduceIte, Nat.reduceEqDiff, Nat.reduceLT, List.foldl_cons, List.foldl_nil, Int.ofNat_lt]
      refine cdK_dec (fun h => ?_) (fun h => ?_)
      · have hns := negK_set h
        simp (implicitDefEqProofs := false) (dsimp := false) only [h, ↓optK_some, ↓rwK_mk_, ↓nthK_H, ↓nthH_zero, ↓aw_seq, ↓aw_block, ↓aw_skip, ↓aw_reg, ↓Qseq_n, ↓Qblk_n, ↓ops_nil, ↓ops_cons, ↓eval_tmp, ↓eval_int, ↓put_some, ↓put_none, ↓iK_i, ↓dK_d, ↓binE_i, ↓bi_add, ↓in_i64, ↓ldK_p, ↓iaK_o, ↓op_move, ↓op_assign, ↓op_load, ↓op_bin, ↓op_ia, ↓op_store, ↓setRow_mk, ↓row_sz, ↓row_xs, ↓cells_c, ↓vcells_o, ↓one_i, ↓st_e, ↓ty3, ↓ty29, ↓sl29, List.getD_cons_zero, List.getD_cons_succ, List.set_cons_zero, List.set_cons_succ, List.length_cons, List.length_nil, List.all_cons, List.all_nil, Bool.true_and, Bool.and_self, Nat.reduceAdd, Nat.reduceSub, Nat.reduceMul, Nat.zero_add, Int.toNat_natCast, evK_go, reduceIte, decide_true, Nat.reduceEqDiff, Nat.reduceLT, and_self, true_and, Int.zero_add, Int.ofNat_lt, Int.natCast_nonneg]
        refine ⟨by omega, k + 1, by omega, by omega, ?_⟩
        refine Wkn.of [0] [some 0] ?_
        simp (implicitDefEqProofs := false) (dsimp := false) only [← hns, List.map_set, ↓vcells_o, List.getD_cons_zero, List.set_cons_zero, List.set_cons_succ, List.length_cons, List.length_nil, Bool.and_self, Nat.reduceAdd, Nat.reduceSub, Nat.reduceMul, Nat.zero_add, List.replicate, evK_go, reduceIte, Nat.reduceEqDiff, Nat.reduceLT, and_self, Int.zero_add, List.foldl_cons, List.foldl_nil, Int.cast_ofNat_Int, Int.natCast_add, slots, wkL_nil, wkL_cons, wkB_nil, wkB_cons, wkR_nil, wkR_some, wkV_j, wkV_d, wkV_o, wkV_p, frz_d, oK_zs, pK_z, reduceCtorEq]
      · obtain rfl : k = m := by omega
        have hst0 : (List.map (I .i64) (negK k k)).set f' (I .i64 0) = ((bStart k f').out).map (I .i64) := by rw [negK_all, bStart, List.map_set]
        have hbl := bStart_len k f'
        obtain ⟨hBI0, hBC0, hrm0⟩ := BI.start hsg hfm
        have hfar : farL k L f' = (bRun (outS k (symL L)) k (bStart k f')).out := rfl
        have htd : (bStart k f').todo = [f'] := rfl
        have hstep := fun s h1 h2 h3 => BI.step (n := k) (l := symL L) (f := f') (by omega) hsg (s := s) h1 h2 h3
        have hjs := fun x (hx : x < k) => BI.js hsg (f := f') hx
        have hmem := fun a b => mem_next (n := k) (by omega) hsg (i := a) (j := b)
        simp (implicitDefEqProofs := false) (dsimp := false) only [hst0, beside_callD, hcr, ↓optK_some, ↓rwK_mk_, ↓nthK_H, ↓nthH_zero, ↓aw_seq, ↓aw_block, ↓aw_exit, ↓aw_loop, ↓aw_reg, ↓Qseq_n, ↓Qseq_x, ↓Qblk_x, ↓ops_nil, ↓ops_cons, ↓eval_tmp, ↓eval_int, ↓eval_func, ↓put_some, ↓put_none, ↓iK_i, ↓dK_d, ↓ldK_p, ↓iaK_o, ↓op_move, ↓op_assign, ↓op_load, ↓op_ia, ↓op_call, ↓op_alloc, ↓op_store, isD_d, ↓fnK_f, ↓call_H, ↓callK_H, ↓allT_nil, ↓allT_cons, ↓allD_nil, ↓allD_cons, ↓td_d, ↓addBox_mk, ↓addRow_mk, ↓setBox_mk, ↓setRow_mk, ↓st_bx, ↓st_rw, ↓row_sz, ↓row_xs, ↓cells_c, ↓vcells_nl, ↓vcells_o, ↓one_i, ↓vone_o, constV_n, ↓st_p, ↓st_e, ↓bs_, ↓op_bs, ↓bsL_t, ↓stored_mk, ↓sl_nil, ↓sl_cons, ↓st_store_t, ↓sT_move, ↓sT_bs, ↓sT_alloc, ↓beq_some, ↓vsz_int, ↓inO_1, ↓fm_nil, ↓fm_cons, ↓ty3, ↓zb3, ↓ty29, ↓sl29, ↓zb29, List.getD_cons_zero, List.getD_cons_succ, List.set_cons_zero, List.set_cons_succ, List.cons_append, List.nil_append, List.append_nil, List.map_cons, List.map_nil, List.length_cons, List.length_nil, List.all_cons, List.all_nil, Bool.true_and, Bool.and_self, Bool.or_true, Bool.true_or, Bool.or_false, Nat.reduceAdd, Nat.reduceSub, Nat.reduceMul, Nat.zero_add, Int.toNat_natCast, evK_go, reduceIte, decide_true, decide_false, Nat.reduceEqDiff, Nat.reduceLT, and_self, true_and, Nat.lt_irrefl, Int.zero_add, Int.ofNat_lt, Int.natCast_nonneg]
        refine ⟨hfm, ?_⟩
        (repeat refine OrH.l ?_)
        generalize bStart k f' = s0 at *
        generalize outS k (symL L) = S at *
        refine ⟨by decide, ?_⟩
        refine loopW (fun x : FI => { tm := slots 79 [(0, .d (I .i64 (k : Int))), (9, .p 0 0), (11, .d (.l (S.map U))), (12, .p 1 0)], bx := [.o 0 0 k, .o 1 x.pre.length x.st.todo.length], rw := [some ⟨1, x.st.out.map (I .i64)⟩, some ⟨1, (x.pre ++ x.st.todo).map nD⟩] })
          (fun x => BI k (symL L) f' x.st ∧ BC (symL L) x.st (fun _ => False) ∧ x.st.todo.length + negs x.st.out ≤ x.q ∧ x.q ≤ k ∧ bRun S x.q x.st = bRun S k s0) (fun x => x.q) ⟨k, [], s0⟩ ⟨hBI0, hBC0, by show s0.todo.length + negs s0.out ≤ k; omega, Nat.le_refl _, rfl⟩ ?_ ?_
        · refine Wkn.of [0, 1] [some 0, some 1] ?_
          simp (implicitDefEqProofs := false) (dsimp := false) only [htd, nD, List.map_cons, List.map_nil, List.nil_append, List.length_nil, List.length_cons, ↓vcells_o, List.getD_cons_zero, List.getD_cons_succ, List.set_cons_zero, List.set_cons_succ, List.nil_append, List.map_cons, List.map_nil, List.length_cons, List.length_nil, Bool.and_self, Nat.reduceAdd, Nat.reduceSub, Nat.reduceMul, Nat.zero_add, List.replicate, evK_go, reduceIte, Nat.reduceEqDiff, Nat.reduceLT, and_self, Int.zero_add, List.foldl_cons, List.foldl_nil, slots, wkL_nil, wkL_cons, wkB_nil, wkB_cons, wkR_nil, wkR_some, wkV_j, wkV_d, wkV_o, wkV_p, frz_d, oK_zs, oK_s, pK_z, pK_s, reduceCtorEq]
        · rintro ⟨q, pre, s⟩ ⟨hI, hC, hr, hqk, hrun⟩
          simp only at hI hC hr hqk hrun
          simp (implicitDefEqProofs := false) (dsimp := false) only [slots, ↓optK_some, ↓rwK_mk_, ↓nthK_H, ↓nthH_zero, ↓aw_cond, ↓aw_seq, ↓aw_reg, ↓Qseq_n, ↓ops_nil, ↓ops_cons, ↓eval_tmp, ↓eval_int, ↓put_some, ↓bK_b, ↓lenK_o, ↓binE_i, ↓bi_gtr, ↓ldK_p, ↓op_load, ↓op_bin, ↓op_len, ↓vcells_o, ↓ty29, ↓sl29, List.getD_cons_zero, List.getD_cons_succ, List.set_cons_zero, List.set_cons_succ, Nat.reduceAdd, Nat.reduceSub, Nat.reduceMul, List.replicate, evK_go, reduceIte, Nat.reduceEqDiff, Nat.reduceLT, List.foldl_cons, List.foldl_nil]
          refine cdK_dec (fun h1 => ?_) (fun h1 => ?_)
          · have hne : s.todo ≠ [] := fun e => by rw [e] at h1; simp at h1
            obtain ⟨hI', hC', hr'⟩ := hstep s hI hC hne
            obtain ⟨x, t, e⟩ := List.exists_cons_of_ne_nil hne
            have ex : s.todo.getD 0 default = x := by rw [e]; rfl
            have hx := hI.todo x (by rw [e]; simp)
            have hel : (pre ++ s.todo).getD pre.length default = x := by
              rw [List.getD_eq_getElem?_getD, List.getElem?_append_right (Nat.le_refl _), Nat.sub_self, e]; rfl
            have hell : pre.length < (pre ++ s.todo).length := by rw [List.length_append, e]; simp
            have hxS : x < S.length := by omega
            have hxt := hSt _ (getD_mem hxS)
            simp (implicitDefEqProofs := false) (dsimp := false) only [hel, hell, hxS, nD, each_call, ↓optK_some, ↓rwK_mk_, ↓atK_H, ↓atH_map, ↓nthK_H, ↓nthH_zero, ↓aw_seq, ↓aw_block, ↓aw_skip, ↓aw_rng, ↓aw_reg, ↓Qseq_n, ↓ops_nil, ↓ops_cons, ↓eval_tmp, ↓eval_int, ↓eval_func, ↓put_some, ↓iK_i, ↓ldK_q, ↓ldK_p, ↓ldK_e, ↓iaK_l, ↓iaK_o, ↓op_move, ↓op_load, ↓op_ia, ↓op_call, isD_d, ↓fnK_f, ↓call_H, ↓callK_H, ↓allT_nil, ↓allT_cons, ↓td_d, ↓row_sz, ↓row_xs, ↓cells_c, ↓vcells_o, ↓hd_cons, ↓ty3, ↓ty29, ↓sl29, ↓sl45, ↓ty49, List.getD_cons_zero, List.getD_cons_succ, List.set_cons_zero, List.set_cons_succ, List.append_nil, List.length_cons, List.length_nil, List.all_cons, List.all_nil, Bool.true_and, Bool.and_self, Bool.true_or, Nat.reduceAdd, Nat.reduceSub, Nat.reduceMul, Nat.zero_add, Nat.add_zero, Int.toNat_natCast, Int.toNat_zero, evK_go, reduceIte, Nat.reduceEqDiff, Nat.reduceLT, and_self, true_and, Int.zero_add, Int.natCast_nonneg]
            refine ⟨⟨by omega, h1⟩, ?_⟩
            (repeat refine OrH.l ?_)
            refine rangeW (slots 79 [(0, .d (I .i64 (k : Int))), (9, .p 0 0), (11, .d (.l (S.map U))), (12, .p 1 0), (56, .d (.f (.func 40) [.q [U (S.getD x default)]]))])
              (fun y : FI => [.o 0 0 k, .o 1 y.pre.length y.st.todo.length]) (fun y => [some ⟨1, y.st.out.map (I .i64)⟩, some ⟨1, (y.pre ++ y.st.todo).map nD⟩])
              (fun ys y => ∃ P : List Nat, ys = P.map Int.ofNat ∧ y.st = P.foldl (bJ x) s) ⟨0, pre, s⟩
              (by simp [slots]) (each_iter _ hxt) ?_ ⟨[], rfl, rfl⟩ ?_ ?_ ?_
            · simp (implicitDefEqProofs := false) (dsimp := false) only [slots, ↓eval_tmp, List.getD_cons_zero, List.getD_cons_succ, List.set_cons_zero, List.set_cons_succ, Nat.reduceAdd, Nat.reduceSub, Nat.reduceMul, List.replicate, evK_go, reduceIte, Nat.reduceEqDiff, Nat.reduceLT, List.foldl_cons, List.foldl_nil]
            · refine Wkn.of [0, 1] [some 0, some 1] ?_
              simp (implicitDefEqProofs := false) (dsimp := false) only [↓vcells_o, List.getD_cons_zero, List.getD_cons_succ, List.set_cons_zero, List.set_cons_succ, List.length_cons, List.length_nil, Bool.and_self, Nat.reduceAdd, Nat.reduceSub, Nat.reduceMul, Nat.zero_add, List.replicate, evK_go, reduceIte, Nat.reduceEqDiff, Nat.reduceLT, and_self, Int.zero_add, List.foldl_cons, List.foldl_nil, slots, wkL_nil, wkL_cons, wkB_nil, wkB_cons, wkR_nil, wkR_some, wkV_j, wkV_d, wkV_o, wkV_p, frz_d, oK_zs, oK_s, pK_z, pK_s, reduceCtorEq]
            · rintro ys y ⟨q', pre', s'⟩ hpx ⟨P, rfl, hs'⟩
              obtain ⟨P', c, hP, rfl, hcc⟩ := prefix_map hpx
              obtain rfl : P = P' := ofNat_inj hP
              simp only at hs'
              have hcm : c ∈ pts (S.getD x default) := hcc.subset (by simp : c ∈ P ++ [c])
              have hsub : ∀ j ∈ P, (x, j) ∈ symL L := fun j hj => (hmem x j).1 (hcc.subset (by simp [hj]))
              obtain ⟨g1, g2, g3, g4, g5, g6⟩ := hjs x hx.1 P s hI hx.2 hsub
              have hn' : (P ++ [c]).foldl (bJ x) s = bJ x s' c := by rw [List.foldl_append, ← hs']; rfl
              rw [← hs'] at g1 g2 g3 g4 g5 g6
              have hck := (hsg _ ((hmem x c).1 hcm)).2
              have hol := g1.len
              have hg2 := g2 x hx.2
              have hx0 := hx.2
              rw [← hg2] at hx0
              simp (implicitDefEqProofs := false) (dsimp := false) only [slots, hck, hol, ↓optK_some, ↓rwK_mk_, ↓atK_H, ↓atH_map, ↓nthK_H, ↓nthH_zero, ↓aw_cond, ↓aw_seq, ↓aw_block, ↓aw_reg, ↓Qseq_n, ↓ops_nil, ↓ops_cons, ↓eval_tmp, ↓eval_int, ↓put_some, ↓bK_b, ↓iK_i, ↓binE_i, ↓bi_lss, ↓ldK_p, ↓ldK_e, ↓iaK_o, ↓op_move, ↓op_assign, ↓op_load, ↓op_bin, ↓op_ia, ↓row_sz, ↓row_xs, ↓cells_c, ↓vcells_o, ↓Qn_n, ↓ty3, ↓ty29, ↓sl29, List.getD_cons_zero, List.getD_cons_succ, List.set_cons_zero, List.set_cons_succ, Bool.true_and, Bool.and_self, Nat.reduceAdd, Nat.reduceSub, Nat.reduceMul, Nat.zero_add, Int.toNat_natCast, List.replicate, evK_go, reduceIte, Nat.reduceEqDiff, Nat.reduceLT, and_self, true_and, Int.zero_add, List.foldl_cons, List.foldl_nil, Int.ofNat_lt, Int.natCast_nonneg]
              refine cdK_dec (fun h2 => ?_) (fun h2 => ?_)
              · have hb2 : bJ x s' c = ⟨s'.out.set c (s'.out.getD x default + 1), s'.todo ++ [c]⟩ := if_pos h2
                obtain ⟨u, hu⟩ := g4
                have hel' : (pre' ++ s'.todo).getD pre'.length default = x := by
                  rw [List.getD_eq_getElem?_getD, List.getElem?_append_right (Nat.le_refl _), Nat.sub_self, ← hu, e]; rfl
                have hell' : pre'.length < (pre' ++ s'.todo).length := by rw [List.length_append, ← hu, e]; simp
                have htl : 0 < s'.todo.length := by rw [← hu, e]; simp
                have hxk := hx.1
                have hdr : List.drop pre'.length (List.map nD (pre' ++ s'.todo)) = List.map nD s'.todo := by rw [← List.map_drop, List.drop_left]
                have hvx : s'.out.getD x default ≤ 8 := by
                  rcases g1.val x hxk with h3 | ⟨k0, h3, _, h4⟩
                  · omega
                  · omega
                simp (implicitDefEqProofs := false) (dsimp := false) only [hel', hell', hxk, hck, hol, hdr, nD, ↓optK_some, ↓rwK_mk_, ↓atK_H, ↓atH_map, ↓nthK_H, ↓nthH_zero, ↓aw_seq, ↓aw_reg, ↓aw_draw, ↓Qseq_n, ↓Qblk_n, ↓ops_nil, ↓ops_cons, ↓eval_tmp, ↓eval_int, ↓put_some, ↓put_none, ↓iK_i, ↓dK_d, ↓ev_move, ↓ev_load, ↓ev_bin, ↓ev_ia, ↓binE_i, ↓bi_add, ↓in_i64, ↓ldK_p, ↓ldK_e, ↓iaK_o, ↓op_move, ↓op_load, ↓op_append, ↓op_store, ↓allD_nil, ↓allD_cons, ↓draw_H, ↓h_cons, ↓ldH_t, ↓ldH_n, ↓q_move, ↓q_load, ↓q_bin, ↓q_ia, ↓il_move, ↓il_load, ↓il_bin, ↓il_ia, ↓il_store, ↓setBox_mk, ↓setRow_mk, ↓app_mk, ↓st_bx, ↓row_sz, ↓row_xs, kill_d, kill_j, kill_p, kill_o, kill_e, ↓cells_c, ↓vcells_j, ↓vcells_o, ↓one_i, ↓vone_o, ↓st_p, ↓st_e, ↓ap_, ↓ap_o, ↓src_l, ↓bs_, ↓op_bs, ↓bsL_f, ↓stored_mk, ↓sl_nil, ↓sl_cons, ↓st_store_t, ↓sT_move, ↓sT_load, ↓sT_bs, ↓sT_call, ↓beq_some, ↓vsz_int, ↓inO_1, ↓fm_nil, ↓fm_cons, ↓Qrd_n, ↓back_mk, ↓ty3, ↓zb3, ↓ty29, ↓sl29, List.getD_cons_zero, List.getD_cons_succ, List.set_cons_zero, List.set_cons_succ, List.map_cons, List.map_nil, List.length_cons, List.length_nil, List.length_map, List.all_cons, List.all_nil, Bool.true_and, Bool.and_self, Bool.or_false, Nat.reduceAdd, Nat.reduceSub, Nat.reduceMul, Nat.zero_add, Nat.add_zero, Int.toNat_natCast, Int.toNat_zero, evK_go, reduceIte, decide_false, Nat.reduceEqDiff, Nat.reduceLT, and_self, true_and, Int.zero_add, Int.ofNat_lt, Int.natCast_nonneg]
                refine OrH.l ⟨DrawH.of follows_mixed (by kernel_rfl), ⟨by omega, by omega⟩, ⟨by omega, by omega⟩, by decide, ⟨fun h => (by cases h), by simp, by omega, by omega⟩, ⟨q', [], bJ x s' c⟩, ⟨P ++ [c], by simp, by rw [hn']⟩, ?_⟩
                refine Wkn.of [0, 1] [some 0, some 1] ?_
                simp (implicitDefEqProofs := false) (dsimp := false) only [hb2, List.map_set, List.nil_append, List.map_append, List.length_append, List.length_nil, nD, ↓vcells_o, List.getD_cons_zero, List.getD_cons_succ, List.set_cons_zero, List.set_cons_succ, List.nil_append, List.map_cons, List.map_nil, List.length_cons, List.length_nil, Bool.and_self, Nat.reduceAdd, Nat.reduceSub, Nat.reduceMul, Nat.zero_add, List.replicate, evK_go, reduceIte, Nat.reduceEqDiff, Nat.reduceLT, and_self, Int.zero_add, List.foldl_cons, List.foldl_nil, slots, wkL_nil, wkL_cons, wkB_nil, wkB_cons, wkR_nil, wkR_some, wkV_j, wkV_d, wkV_o, wkV_p, frz_d, oK_zs, oK_s, pK_z, pK_s, reduceCtorEq]
              · have hb2 : bJ x s' c = s' := if_neg h2
                simp (implicitDefEqProofs := false) (dsimp := false) only [↓aw_skip, ↓Qblk_n, ↓Qrd_n, ↓back_mk, Nat.reduceAdd, Nat.reduceSub, Nat.reduceMul, evK_go, reduceIte, Nat.reduceEqDiff, Nat.reduceLT]
                refine ⟨⟨q', pre', s'⟩, ⟨P ++ [c], by simp, by rw [hn', hb2]⟩, ?_⟩
                refine Wkn.of [0, 1] [some 0, some 1] ?_
                simp (implicitDefEqProofs := false) (dsimp := false) only [↓vcells_o, List.getD_cons_zero, List.getD_cons_succ, List.set_cons_zero, List.set_cons_succ, List.length_cons, List.length_nil, Bool.and_self, Nat.reduceAdd, Nat.reduceSub, Nat.reduceMul, Nat.zero_add, List.replicate, evK_go, reduceIte, Nat.reduceEqDiff, Nat.reduceLT, and_self, Int.zero_add, List.foldl_cons, List.foldl_nil, slots, wkL_nil, wkL_cons, wkB_nil, wkB_cons, wkR_nil, wkR_some, wkV_j, wkV_d, wkV_o, wkV_p, frz_d, oK_zs, oK_s, pK_z, pK_s, reduceCtorEq]
            · rintro ⟨q', pre', s'⟩ ⟨P, hP, hs'⟩
              obtain rfl : pts (S.getD x default) = P := ofNat_inj hP
              simp only at hs'
              obtain ⟨g1, g2, g3, ⟨u, hu⟩, g5, g6⟩ := hjs x hx.1 _ s hI hx.2 (fun j hj => (hmem x j).1 hj)
              have hbs : bStep S s = ⟨s'.out, s'.todo.drop 1⟩ := by unfold bStep bIn; rw [ex, ← hs']
              rw [← hs', e] at hu
              have htd' : s'.todo = x :: (t ++ u) := hu.symm
              cases q with
              | zero => rw [e] at hr; simp at hr
              | succ q =>
              have hrn : bRun S (q + 1) s = bRun S q (bStep S s) := if_neg hne
              have e3 : ((s'.todo.length : Int) - 1).toNat = (s'.todo.drop 1).length := by rw [List.length_drop]; omega
              have e4 : List.map nD (pre' ++ s'.todo) = List.map nD ((pre' ++ [x]) ++ s'.todo.drop 1) := by rw [htd']; simp
              have hlp : 0 < s'.todo.length := by rw [htd']; simp
              simp (implicitDefEqProofs := false) (dsimp := false) only [slots, ↓optK_some, ↓rwK_mk_, ↓nthK_H, ↓nthH_zero, ↓aw_seq, ↓aw_reg, ↓Qseq_n, ↓Qblk_n, ↓ops_nil, ↓ops_cons, ↓eval_tmp, ↓eval_int, ↓put_some, ↓put_none, ↓iK_i, ↓optI_none, ↓optI_some, ↓ldK_p, ↓sliK_o, ↓op_load, ↓op_slice, ↓op_alloc, ↓op_store, ↓addBox_mk, ↓setBox_mk, ↓st_bx, ↓row_sz, ↓vcells_nl, ↓vcells_o, ↓vone_o, constV_n, ↓st_p, ↓ty3, ↓ty29, ↓sl29, ↓zb29, List.getD_cons_zero, List.getD_cons_succ, List.set_cons_zero, List.set_cons_succ, List.cons_append, List.nil_append, List.length_cons, List.length_nil, List.all_cons, List.all_nil, Bool.true_and, Bool.and_self, Nat.reduceAdd, Nat.reduceSub, Nat.reduceMul, Nat.zero_add, Int.toNat_one, List.replicate, evK_go, reduceIte, Nat.reduceEqDiff, Nat.reduceLT, and_self, true_and, Option.getD_none, Option.getD_some, Int.zero_add, List.foldl_cons, List.foldl_nil, Int.ofNat_le]
              refine ⟨⟨by omega, by omega, by omega⟩, ⟨q, pre' ++ [x], bStep S s⟩, ⟨hI', hC', ?_, ?_, ?_⟩, ?_, ?_⟩
              · show (bStep S s).todo.length + negs (bStep S s).out ≤ q
                omega
              · show q ≤ k
                omega
              · rw [← hrun, hrn]
              · show q < q + 1
                omega
              · refine Wkn.of [0, 2] [some 0, some 1] ?_
                rw [hbs]
                simp (implicitDefEqProofs := false) (dsimp := false) only [e3, e4, List.length_append, List.length_cons, List.length_nil, ↓vcells_o, List.getD_cons_zero, List.getD_cons_succ, List.length_cons, List.length_nil, Bool.and_self, Nat.reduceAdd, Nat.reduceSub, Nat.reduceMul, Nat.zero_add, evK_go, reduceIte, Nat.reduceEqDiff, Nat.reduceLT, and_self, Int.zero_add, slots, wkL_nil, wkL_cons, wkB_nil, wkB_cons, wkR_nil, wkR_some, wkV_j, wkV_d, wkV_o, wkV_p, frz_d, oK_zs, oK_s, pK_z, pK_s, reduceCtorEq]
          · have ht : s.todo = [] := List.eq_nil_of_length_eq_zero (by omega)
            have hq : bRun S q s = s := by cases q with | zero => rfl | succ q => exact if_pos ht
            have hol := hI.len
            have e1 : farL k L f' = s.out := by rw [hfar, ← hrun, hq]
            have e2 : List.take k (List.map (I .i64) s.out) = List.map (I .i64) s.out := List.take_of_length_le (by simp; omega)
            simp (implicitDefEqProofs := false) (dsimp := false) only [e1, e2, erD_0, eval_nilI, ↓optK_some, ↓rwK_mk_, ↓nthK_H, ↓nthH_zero, ↓aw_seq, ↓aw_exit, ↓aw_ret, ↓aw_reg, ↓Qseq_n, ↓Qseq_x, ↓Qblk_x, ↓Qret_r, ↓ops_nil, ↓ops_cons, ↓eval_tmp, ↓put_some, ↓ldK_p, ↓op_assign, ↓op_load, ↓td_d, ↓td_o, ↓ret_2, ↓row_xs, ↓vcells_o, ↓ty29, List.getD_cons_zero, List.getD_cons_succ, List.set_cons_zero, List.set_cons_succ, Nat.reduceAdd, Nat.reduceSub, Nat.reduceMul, evK_go, reduceIte, Nat.reduceEqDiff, Nat.reduceLT, List.drop_zero]
  · simp (implicitDefEqProofs := false) (dsimp := false) only [hb, ↓aw_seq, ↓aw_ret, ↓aw_reg, ↓Qseq_n, ↓Qseq_r, ↓Qret_r, ↓ops_nil, ↓ops_cons, ↓eval_tmp, ↓eval_int, ↓eval_nil, ↓put_some, ↓vK_c, ↓op_assign, ↓op_iface, ↓td_d, ↓td_nl, ↓ret_2, ↓nc43, List.getD_cons_zero, List.getD_cons_succ, List.set_cons_zero, List.set_cons_succ, Bool.true_and, Nat.reduceAdd, Nat.reduceSub, Nat.reduceMul, evK_go, reduceIte, Bool.not_false, Nat.reduceEqDiff, Nat.reduceLT, true_and]
    rfl
theorem wfrom_call (n : Int) (l : List (Int × Int)) (f : Int) (pure : Bool) (σ : St) (dst : Option Tmp) (K : St → Prop) : CallH Try.prog 24 [I .i64 n, .l (l.map lnD), I .i64 f] pure σ dst (.mk : Hid K) = OrH ((l.length < 2 ^ 62) ∧ (pure || D.flat (.t [.l ((farR n l f).map (I .i64)), erD (farE n l f)])) = true ∧ evK (σ.put dst (.d (.t [.l ((farR n l f).map (I .i64)), erD (farE n l f)]))) (.mk : Hid K)) (.mk : Hid (CallH Try.prog 24 [I .i64 n, .l (l.map lnD), I .i64 f] pure σ dst (.mk : Hid K))) := CallH.eq (wfrom_spec n l f) pure σ dst K
end Go.Proofs

namespace Go.Proofs
open Go.Aw
set_option linter.unusedSimpArgs false
set_option maxRecDepth 10000
theorem smax_spec (l : List Int) (hpre : 0 < l.length ∧ l.length < 2 ^ 62) : FnD Try.prog 15 [.l (l.map (I .i64))] (I .i64 (maxI l)) := by
  obtain ⟨h0, h62⟩ := hpre
  have d1 : decide ((l.length : Int) < 1) = false := decide_eq_false (by omega)
  refine FnD.go Try.func15 rfl rfl Try.results15 Try.ntmps15 ?_
  simp (implicitDefEqProofs := false) (dsimp := false) only [↓aw_cond, ↓aw_seq, ↓aw_reg, ↓Qseq_n, ↓ops_nil, ↓ops_cons, ↓eval_tmp, ↓eval_int, ↓put_some, ↓bK_b, ↓lenK_l, ↓binE_i, ↓bi_lss, ↓op_move, ↓op_assign, ↓op_bin, ↓op_len, ↓sl29, List.getD_cons_zero, List.getD_cons_succ, List.set_cons_zero, List.set_cons_succ, List.cons_append, List.nil_append, List.map_cons, List.map_nil, List.length_cons, List.length_nil, List.length_map, Nat.reduceAdd, Nat.reduceSub, Nat.reduceMul, Nat.zero_add, List.replicate, evK_go, reduceIte, Nat.reduceEqDiff, Nat.reduceLT, Int.zero_add]
  simp (implicitDefEqProofs := false) (dsimp := false) only [d1, h0, ↓cdK_false, ↓atK_H, ↓atH_map, ↓aw_seq, ↓aw_block, ↓aw_skip, ↓aw_loop, ↓aw_reg, ↓Qseq_n, ↓ops_nil, ↓ops_cons, ↓eval_tmp, ↓eval_int, ↓put_some, ↓iK_i, ↓ldK_q, ↓iaK_l, ↓op_move, ↓op_assign, ↓op_load, ↓op_ia, ↓cells_c, ↓hd_cons, ↓ty3, ↓sl29, List.getD_cons_zero, List.getD_cons_succ, List.set_cons_zero, List.set_cons_succ, List.length_cons, List.length_nil, Bool.true_and, Nat.reduceAdd, Nat.reduceSub, Nat.reduceMul, Nat.zero_add, Int.toNat_zero, evK_go, reduceIte, Nat.reduceEqDiff, Nat.reduceLT, true_and, Int.zero_add]
  refine ⟨by decide, ?_⟩
  refine loopW (fun i : Nat => { tm := slots 25 [(0, .d (.l (l.map (I .i64)))), (3, .d (I .i64 (maxK l i))), (4, .d (I .i64 (i + 1 : Nat)))], bx := [], rw := [] })
    (fun i => i < l.length) (fun i => l.length - i) 0 h0 ?_ ?_
  · refine Wkn.of [] [] ?_; simp (implicitDefEqProofs := false) (dsimp := false) only [maxK, List.set_cons_zero, List.set_cons_succ, Bool.and_self, Nat.reduceAdd, Nat.reduceSub, Nat.reduceMul, Nat.zero_add, List.replicate, evK_go, reduceIte, Nat.reduceEqDiff, Nat.reduceLT, and_self, Int.zero_add, List.foldl_cons, List.foldl_nil, Int.cast_ofNat_Int, slots, wkL_nil, wkL_cons, wkB_nil, wkR_nil, wkV_j, wkV_d, frz_d, reduceCtorEq]
  · intro i hi
    have hK : maxK l (i + 1) = if l.getD (i + 1) default > maxK l i then l.getD (i + 1) default else maxK l i := rfl
    simp (implicitDefEqProofs := false) (dsimp := false) only [slots, ↓aw_cond, ↓aw_seq, ↓aw_reg, ↓Qseq_n, ↓ops_nil, ↓ops_cons, ↓eval_tmp, ↓put_some, ↓bK_b, ↓lenK_l, ↓binE_i, ↓bi_lss, ↓op_move, ↓op_bin, ↓op_len, ↓sl29, List.getD_cons_zero, List.getD_cons_succ, List.set_cons_zero, List.set_cons_succ, List.length_map, Nat.reduceAdd, Nat.reduceSub, Nat.reduceMul, List.replicate, evK_go, reduceIte, Nat.reduceEqDiff, Nat.reduceLT, List.foldl_cons, List.foldl_nil, Int.cast_ofNat_Int, Int.natCast_add]
    refine cdK_dec (fun h => ?_) (fun h => ?_)
    · have hil : i + 1 < l.length := by omega
      have e1 : ((i : Int) + 1).toNat = i + 1 := by omega
      simp (implicitDefEqProofs := false) (dsimp := false) only [hil, e1, ↓atK_H, ↓atH_map, ↓aw_seq, ↓aw_block, ↓aw_skip, ↓aw_reg, ↓Qseq_n, ↓Qblk_n, ↓ops_nil, ↓ops_cons, ↓eval_tmp, ↓eval_int, ↓put_some, ↓iK_i, ↓binE_i, ↓bi_add, ↓in_i64, ↓ldK_q, ↓iaK_l, ↓op_move, ↓op_assign, ↓op_load, ↓op_bin, ↓op_ia, ↓op_max, ↓cells_c, ↓hd_cons, ↓ty3, ↓sl29, List.getD_cons_zero, List.getD_cons_succ, List.set_cons_zero, List.set_cons_succ, List.length_cons, List.length_nil, Bool.true_and, Nat.reduceAdd, Nat.reduceSub, Nat.reduceMul, Nat.zero_add, evK_go, reduceIte, Nat.reduceEqDiff, Nat.reduceLT, true_and, Int.zero_add, Int.cast_ofNat_Int, Int.natCast_add]
      refine ⟨by omega, by omega, i + 1, hil, by omega, ?_⟩
      refine Wkn.of [] [] ?_; simp (implicitDefEqProofs := false) (dsimp := false) only [hK, List.set_cons_zero, List.set_cons_succ, Bool.and_self, Nat.reduceAdd, Nat.reduceSub, Nat.reduceMul, List.replicate, evK_go, reduceIte, Nat.reduceEqDiff, Nat.reduceLT, and_self, List.foldl_cons, List.foldl_nil, Int.cast_ofNat_Int, Int.natCast_add, slots, wkL_nil, wkL_cons, wkB_nil, wkR_nil, wkV_j, wkV_d, frz_d, reduceCtorEq]
    · have e : maxI l = maxK l i := by unfold maxI; rw [show l.length - 1 = i by omega]
      simp (implicitDefEqProofs := false) (dsimp := false) only [e, ↓aw_seq, ↓aw_exit, ↓aw_ret, ↓aw_reg, ↓Qseq_n, ↓Qseq_x, ↓Qblk_x, ↓Qret_r, ↓ops_nil, ↓ops_cons, ↓eval_tmp, ↓put_some, ↓op_move, ↓op_assign, ↓td_d, ↓ret_1, List.getD_cons_zero, List.getD_cons_succ, List.set_cons_zero, List.set_cons_succ, Nat.reduceAdd, Nat.reduceSub, Nat.reduceMul, evK_go, reduceIte, Nat.reduceEqDiff, Nat.reduceLT]
theorem smax_call (l : List Int) (pure : Bool) (σ : St) (dst : Option Tmp) (K : St → Prop) : CallH Try.prog 15 [.l (l.map (I .i64))] pure σ dst (.mk : Hid K) = OrH ((0 < l.length ∧ l.length < 2 ^ 62) ∧ (pure || D.flat (I .i64 (maxI l))) = true ∧ evK (σ.put dst (.d (I .i64 (maxI l)))) (.mk : Hid K)) (.mk : Hid (CallH Try.prog 15 [.l (l.map (I .i64))] pure σ dst (.mk : Hid K))) := CallH.eq (smax_spec l) pure σ dst K
theorem smin_spec (l : List Int) (hpre : 0 < l.length ∧ l.length < 2 ^ 62) : FnD Try.prog 19 [.l (l.map (I .i64))] (I .i64 (minI l)) := by
  obtain ⟨h0, h62⟩ := hpre
  have d1 : decide ((l.length : Int) < 1) = false := decide_eq_false (by omega)
  refine FnD.go Try.func19 rfl rfl Try.results19 Try.ntmps19 ?_
  simp (implicitDefEqProofs := false) (dsimp := false) only [↓aw_cond, ↓aw_seq, ↓aw_reg, ↓Qseq_n, ↓ops_nil, ↓ops_cons, ↓eval_tmp, ↓eval_int, ↓put_some, ↓bK_b, ↓lenK_l, ↓binE_i, ↓bi_lss, ↓op_move, ↓op_assign, ↓op_bin, ↓op_len, ↓sl29, List.getD_cons_zero, List.getD_cons_succ, List.set_cons_zero, List.set_cons_succ, List.cons_append, List.nil_append, List.map_cons, List.map_nil, List.length_cons, List.length_nil, List.length_map, Nat.reduceAdd, Nat.reduceSub, Nat.reduceMul, Nat.zero_add, List.replicate, evK_go, reduceIte, Nat.reduceEqDiff, Nat.reduceLT, Int.zero_add]
  simp (implicitDefEqProofs := false) (dsimp := false) only [d1, h0, ↓cdK_false, ↓atK_H, ↓atH_map, ↓aw_seq, ↓aw_block, ↓aw_skip, ↓aw_loop, ↓aw_reg, ↓Qseq_n, ↓ops_nil, ↓ops_cons, ↓eval_tmp, ↓eval_int, ↓put_some, ↓iK_i, ↓ldK_q, ↓iaK_l, ↓op_move, ↓op_assign, ↓op_load, ↓op_ia, ↓cells_c, ↓hd_cons, ↓ty3, ↓sl29, List.getD_cons_zero, List.getD_cons_succ, List.set_cons_zero, List.set_cons_succ, List.length_cons, List.length_nil, Bool.true_and, Nat.reduceAdd, Nat.reduceSub, Nat.reduceMul, Nat.zero_add, Int.toNat_zero, evK_go, reduceIte, Nat.reduceEqDiff, Nat.reduceLT, true_and, Int.zero_add]
  refine ⟨by decide, ?_⟩
  refine loopW (fun i : Nat => { tm := slots 25 [(0, .d (.l (l.map (I .i64)))), (3, .d (I .i64 (minK l i))), (4, .d (I .i64 (i + 1 : Nat)))], bx := [], rw := [] })
    (fun i => i < l.length) (fun i => l.length - i) 0 h0 ?_ ?_
  · refine Wkn.of [] [] ?_; simp (implicitDefEqProofs := false) (dsimp := false) only [minK, List.set_cons_zero, List.set_cons_succ, Bool.and_self, Nat.reduceAdd, Nat.reduceSub, Nat.reduceMul, Nat.zero_add, List.replicate, evK_go, reduceIte, Nat.reduceEqDiff, Nat.reduceLT, and_self, Int.zero_add, List.foldl_cons, List.foldl_nil, Int.cast_ofNat_Int, slots, wkL_nil, wkL_cons, wkB_nil, wkR_nil, wkV_j, wkV_d, frz_d, reduceCtorEq]
  · intro i hi
    have hK : minK l (i + 1) = if l.getD (i + 1) default < minK l i then l.getD (i + 1) default else minK l i := rfl
    simp (implicitDefEqProofs := false) (dsimp := false) only [slots, ↓aw_cond, ↓aw_seq, ↓aw_reg, ↓Qseq_n, ↓ops_nil, ↓ops_cons, ↓eval_tmp, ↓put_some, ↓bK_b, ↓lenK_l, ↓binE_i, ↓bi_lss, ↓op_move, ↓op_bin, ↓op_len, ↓sl29, List.getD_cons_zero, List.getD_cons_succ, List.set_cons_zero, List.set_cons_succ, List.length_map, Nat.reduceAdd, Nat.reduceSub, Nat.reduceMul, List.replicate, evK_go, reduceIte, Nat.reduceEqDiff, Nat.reduceLT, List.foldl_cons, List.foldl_nil, Int.cast_ofNat_Int, Int.natCast_add]
    refine cdK_dec (fun h => ?_) (fun h => ?_)
    · have hil : i + 1 < l.length := by omega
      have e1 : ((i : Int) + 1).toNat = i + 1 := by omega
      simp (implicitDefEqProofs := false) (dsimp := false) only [hil, e1, ↓atK_H, ↓atH_map, ↓aw_seq, ↓aw_block, ↓aw_skip, ↓aw_reg, ↓Qseq_n, ↓Qblk_n, ↓ops_nil, ↓ops_cons, ↓eval_tmp, ↓eval_int, ↓put_some, ↓iK_i, ↓binE_i, ↓bi_add, ↓in_i64, ↓ldK_q, ↓iaK_l, ↓op_move, ↓op_assign, ↓op_load, ↓op_bin, ↓op_ia, ↓op_min, ↓cells_c, ↓hd_cons, ↓ty3, ↓sl29, List.getD_cons_zero, List.getD_cons_succ, List.set_cons_zero, List.set_cons_succ, List.length_cons, List.length_nil, Bool.true_and, Nat.reduceAdd, Nat.reduceSub, Nat.reduceMul, Nat.zero_add, evK_go, reduceIte, Nat.reduceEqDiff, Nat.reduceLT, true_and, Int.zero_add, Int.cast_ofNat_Int, Int.natCast_add]
      refine ⟨by omega, by omega, i + 1, hil, by omega, ?_⟩
      refine Wkn.of [] [] ?_; simp (implicitDefEqProofs := false) (dsimp := false) only [hK, List.set_cons_zero, List.set_cons_succ, Bool.and_self, Nat.reduceAdd, Nat.reduceSub, Nat.reduceMul, List.replicate, evK_go, reduceIte, Nat.reduceEqDiff, Nat.reduceLT, and_self, List.foldl_cons, List.foldl_nil, Int.cast_ofNat_Int, Int.natCast_add, slots, wkL_nil, wkL_cons, wkB_nil, wkR_nil, wkV_j, wkV_d, frz_d, reduceCtorEq]
    · have e : minI l = minK l i := by unfold minI; rw [show l.length - 1 = i by omega]
      simp (implicitDefEqProofs := false) (dsimp := false) only [e, ↓aw_seq, ↓aw_exit, ↓aw_ret, ↓aw_reg, ↓Qseq_n, ↓Qseq_x, ↓Qblk_x, ↓Qret_r, ↓ops_nil, ↓ops_cons, ↓eval_tmp, ↓put_some, ↓op_move, ↓op_assign, ↓td_d, ↓ret_1, List.getD_cons_zero, List.getD_cons_succ, List.set_cons_zero, List.set_cons_succ, Nat.reduceAdd, Nat.reduceSub, Nat.reduceMul, evK_go, reduceIte, Nat.reduceEqDiff, Nat.reduceLT]
theorem smin_call (l : List Int) (pure : Bool) (σ : St) (dst : Option Tmp) (K : St → Prop) : CallH Try.prog 19 [.l (l.map (I .i64))] pure σ dst (.mk : Hid K) = OrH ((0 < l.length ∧ l.length < 2 ^ 62) ∧ (pure || D.flat (I .i64 (minI l))) = true ∧ evK (σ.put dst (.d (I .i64 (minI l)))) (.mk : Hid K)) (.mk : Hid (CallH Try.prog 19 [.l (l.map (I .i64))] pure σ dst (.mk : Hid K))) := CallH.eq (smin_spec l) pure σ dst K
theorem reach0_spec (w : Nat) (next : List Nat) (hpre : 0 < next.length ∧ next.length ≤ 64 ∧ w < 2 ^ next.length ∧ (∀ x ∈ next, x < 2 ^ 64)) : FnD Try.prog 35 [I .i64 0, .l (next.map U), U w] (U (reach next w 0)) := by
  have h := reach_spec 0 w next hpre
  exact h
theorem reach0_call (w : Nat) (next : List Nat) (pure : Bool) (σ : St) (dst : Option Tmp) (K : St → Prop) : CallH Try.prog 35 [I .i64 0, .l (next.map U), U w] pure σ dst (.mk : Hid K) = OrH ((0 < next.length ∧ next.length ≤ 64 ∧ w < 2 ^ next.length ∧ (∀ x ∈ next, x < 2 ^ 64)) ∧ (pure || D.flat (U (reach next w 0))) = true ∧ evK (σ.put dst (.d (U (reach next w 0)))) (.mk : Hid K)) (.mk : Hid (CallH Try.prog 35 [I .i64 0, .l (next.map U), U w] pure σ dst (.mk : Hid K))) := CallH.eq (reach0_spec w next) pure σ dst K
def tchk (n : Int) (l : List (Int × Int)) : Int := if chk n l = 0 then (if (l.length : Int) = n - 1 ∧ rs n.toNat (symL (natL l)) 0 = 2 ^ n.toNat - 1 then 0 else 7) else chk n l
theorem erD_7 : erD 7 = .c (.iface 43 (.int .i64 7)) := rfl
theorem tcheck_spec (n : Int) (l : List (Int × Int)) (hpre : l.length < 2 ^ 62) : FnD Try.prog 14 [I .i64 n, .l (l.map lnD)] (erD (tchk n l)) := by
  refine FnD.go Try.func14 rfl rfl Try.results14 Try.ntmps14 ?_
  simp (implicitDefEqProofs := false) (dsimp := false) only [↓aw_seq, ↓aw_reg, ↓Qseq_n, ↓ops_nil, ↓ops_cons, ↓eval_tmp, ↓eval_func, ↓put_some, ↓op_move, ↓op_assign, ↓op_call, isD_d, ↓fnK_f, ↓call_H, ↓callK_H, ↓allT_nil, ↓allT_cons, ↓td_d, List.getD_cons_zero, List.getD_cons_succ, List.set_cons_zero, List.set_cons_succ, List.cons_append, List.nil_append, List.append_nil, List.map_cons, List.map_nil, List.length_cons, List.length_nil, List.all_cons, List.all_nil, Bool.and_self, Nat.reduceAdd, Nat.reduceSub, Nat.reduceMul, Nat.zero_add, List.replicate, evK_go, reduceIte, Nat.reduceEqDiff, Nat.reduceLT, and_self, Int.zero_add]
  simp (implicitDefEqProofs := false) (dsimp := false) only [gcheck_call, hpre, eval_nilI, ↓er_neq, er_flat, ↓cdK_not, ↓aw_cond, ↓aw_seq, ↓aw_reg, ↓Qseq_n, ↓ops_nil, ↓ops_cons, ↓eval_tmp, ↓put_some, ↓bK_b, ↓op_move, ↓op_assign, ↓op_bin, List.getD_cons_zero, List.getD_cons_succ, List.set_cons_zero, List.set_cons_succ, Bool.true_and, Bool.or_true, Nat.reduceAdd, Nat.reduceSub, Nat.reduceMul, evK_go, reduceIte, Nat.reduceEqDiff, Nat.reduceLT, true_and]
  (repeat refine OrH.l ?_)
  refine cdK_dec (fun hc => ?_) (fun hc => ?_)
  rotate_left
  · have e : tchk n l = chk n l := if_neg hc
    simp (implicitDefEqProofs := false) (dsimp := false) only [e, ↓aw_seq, ↓aw_ret, ↓aw_reg, ↓Qseq_n, ↓Qseq_r, ↓Qret_r, ↓ops_nil, ↓ops_cons, ↓eval_tmp, ↓put_some, ↓op_move, ↓op_assign, ↓td_d, ↓ret_1, List.getD_cons_zero, List.getD_cons_succ, List.set_cons_zero, List.set_cons_succ, Nat.reduceAdd, Nat.reduceSub, Nat.reduceMul, evK_go, reduceIte, Nat.reduceEqDiff, Nat.reduceLT]
  have ok := chk_ok hc
  rw [show tchk n l = (if (l.length : Int) = n - 1 ∧ rs n.toNat (symL (natL l)) 0 = 2 ^ n.toNat - 1 then 0 else 7) from if_pos hc, lnD_nat ok.rng]
  have hcr := ok.cr
  have h8 := ok.hi
  have e0 := ok.n0
  have hlo := ok.lo
  rw [← natL_len l]
  clear ok hc hpre
  generalize n.toNat = m at *
  subst e0
  generalize natL l = L at *
  have hsg := symL_good hcr.2.2
  have hSl := outS_len m (symL L)
  have hSt := outS_lt' (n := m) (by omega) hsg
  have hw : 2 ^ m - 1 < 2 ^ m := by have := Nat.one_le_two_pow (n := m); omega
  have hrs : rs m (symL L) 0 = reach (outS m (symL L)) (2 ^ m - 1) 0 := rfl
  rw [hrs]
  have hm64 : m < 64 := by omega
  by_cases hl : (L.length : Int) = (m : Int) - 1
  rotate_left
  · rw [if_neg (fun h => hl h.1)]
    have d1 := decide_eq_false hl
    simp (implicitDefEqProofs := false) (dsimp := false) only [d1, nc43, erD_7, ↓cdK_true, ↓gdK_f, ↓gval_mk, ↓gvL_zero, ↓gvL_succ, ↓aw_cond, ↓aw_seq, ↓aw_ret, ↓aw_skip, ↓aw_reg, ↓Qseq_n, ↓Qseq_r, ↓Qret_r, ↓ops_nil, ↓ops_cons, ↓ops_guard, ↓eval_tmp, ↓eval_int, ↓eval_bool, ↓put_some, ↓bK_b, ↓lenK_l, ↓vK_c, ↓binE_i, ↓bi_sub, ↓bi_neq, ↓in_i64, ↓op_move, ↓op_assign, ↓op_pick, ↓op_bin, ↓op_iface, ↓op_len, ↓td_d, ↓ret_1, ↓st_tm, ↓sl22, ↓nc43, List.getD_cons_zero, List.getD_cons_succ, List.set_cons_zero, List.set_cons_succ, List.length_map, Bool.and_true, Bool.and_self, Nat.reduceAdd, Nat.reduceSub, Nat.reduceMul, evK_go, reduceIte, Bool.not_false, Nat.reduceEqDiff, Nat.reduceLT, and_self, and_true]
    omega
  · have d1 := decide_eq_true hl
    have hpre : 0 < (outS m (symL L)).length ∧ (outS m (symL L)).length ≤ 64 ∧ 2 ^ m - 1 < 2 ^ (outS m (symL L)).length ∧ ∀ x ∈ outS m (symL L), x < 2 ^ 64 := ⟨by omega, by omega, by rw [hSl]; exact hw, hSt⟩
    simp (implicitDefEqProofs := false) (dsimp := false) only [d1, beside_callD, hcr, below_call, hm64, reach0_call, hpre, ↓cdK_false, ↓cdK_not, ↓gdK_f, ↓gval_mk, ↓gvL_zero, ↓gvL_succ, ↓aw_cond, ↓aw_seq, ↓aw_skip, ↓aw_reg, ↓Qseq_n, ↓ops_nil, ↓ops_cons, ↓ops_guard, ↓eval_tmp, ↓eval_int, ↓eval_func, ↓put_some, ↓bK_b, ↓lenK_l, ↓binE_i, ↓bi_sub, ↓bi_neq, ↓in_i64, ↓op_move, ↓op_pick, ↓op_bin, ↓op_len, ↓op_call, isD_d, ↓fnK_f, ↓call_H, ↓callK_H, ↓allT_nil, ↓allT_cons, ↓td_d, ↓st_tm, ↓sl22, List.getD_cons_zero, List.getD_cons_succ, List.set_cons_zero, List.set_cons_succ, List.append_nil, List.length_map, List.all_cons, List.all_nil, Bool.true_and, Bool.and_self, Bool.true_or, Nat.reduceAdd, Nat.reduceSub, Nat.reduceMul, evK_go, reduceIte, Bool.not_true, Nat.reduceEqDiff, Nat.reduceLT, and_self, true_and, Int.natCast_inj]
    refine ⟨by omega, ?_⟩
    (repeat refine OrH.l ?_)
    refine ⟨hSt, ?_⟩
    (repeat refine OrH.l ?_)
    refine cdK_dec (fun h3 => ?_) (fun h3 => ?_)
    · rw [if_pos ⟨hl, h3⟩]
      simp (implicitDefEqProofs := false) (dsimp := false) only [erD_0, eval_nilI, ↓aw_seq, ↓aw_ret, ↓aw_skip, ↓aw_reg, ↓Qseq_n, ↓Qret_r, ↓ops_nil, ↓ops_cons, ↓eval_tmp, ↓put_some, ↓op_assign, ↓td_d, ↓ret_1, List.getD_cons_zero, List.getD_cons_succ, List.set_cons_zero, List.set_cons_succ, Nat.reduceAdd, Nat.reduceSub, Nat.reduceMul, evK_go, reduceIte, Nat.reduceEqDiff, Nat.reduceLT]
    · rw [if_neg (fun h => h3 h.2)]
      simp (implicitDefEqProofs := false) (dsimp := false) only [nc43, erD_7, ↓aw_seq, ↓aw_ret, ↓aw_reg, ↓Qseq_n, ↓Qseq_r, ↓Qret_r, ↓ops_nil, ↓ops_cons, ↓eval_tmp, ↓eval_int, ↓put_some, ↓vK_c, ↓op_assign, ↓op_iface, ↓td_d, ↓ret_1, ↓nc43, List.getD_cons_zero, List.getD_cons_succ, List.set_cons_zero, List.set_cons_succ, Bool.and_self, Nat.reduceAdd, Nat.reduceSub, Nat.reduceMul, evK_go, reduceIte, Nat.reduceEqDiff, Nat.reduceLT, and_self]
theorem tcheck_call (n : Int) (l : List (Int × Int)) (pure : Bool) (σ : St) (dst : Option Tmp) (K : St → Prop) : CallH Try.prog 14 [I .i64 n, .l (l.map lnD)] pure σ dst (.mk : Hid K) = OrH ((l.length < 2 ^ 62) ∧ (pure || D.flat (erD (tchk n l))) = true ∧ evK (σ.put dst (.d (erD (tchk n l)))) (.mk : Hid K)) (.mk : Hid (CallH Try.prog 14 [I .i64 n, .l (l.map lnD)] pure σ dst (.mk : Hid K))) := CallH.eq (tcheck_spec n l) pure σ dst K
def longI (n : Int) (l : List (Int × Int)) : Int := if tchk n l = 0 then maxI (eccL n.toNat (natL l)) else 0
theorem tchk_zero {n : Int} {l : List (Int × Int)} (h : tchk n l = 0) : chk n l = 0 ∧ Tree n.toNat (natL l) := by
  by_cases hc : chk n l = 0
  · refine ⟨hc, ?_⟩
    have ok := chk_ok hc
    have h8 := ok.hi
    have e0 := ok.n0
    have hlo := ok.lo
    have h : (if (l.length : Int) = n - 1 ∧ rs n.toNat (symL (natL l)) 0 = 2 ^ n.toNat - 1 then (0 : Int) else 7) = 0 := by
      have e : tchk n l = _ := if_pos hc
      rw [← e]; exact h
    split at h
    · rename_i hh
      exact tree_of (by omega) (by omega) ok.good (by rw [natL_len]; omega) hh.2
    · cases h
  · have e : tchk n l = chk n l := if_neg hc
    rw [e] at h; exact absurd h hc
theorem farE_zero {n : Int} {l : List (Int × Int)} {f : Int} (hc : chk n l = 0) (h1 : 0 ≤ f) (h2 : f < n) : farE n l f = 0 ∧ farR n l f = farL n.toNat (natL l) f.toNat := by
  have hb : inB f 0 (n - 1) = true := inW_iff.2 ⟨h1, by omega⟩
  exact ⟨by unfold farE; rw [if_pos hc, if_pos hb], by unfold farR; rw [if_pos hc, if_pos hb]⟩
theorem tfar_spec (n : Int) (l : List (Int × Int)) (hpre : chk n l = 0 ∧ l.length < 2 ^ 62) : FnR Try.prog 16 [I .i64 n, .l (l.map lnD)] 1 ((eccL n.toNat (natL l)).map (I .i64)) := by
  obtain ⟨hc, h62⟩ := hpre
  have ok := chk_ok hc
  have h8 := ok.hi
  have hlo := ok.lo
  have hg := ok.good
  obtain ⟨m, rfl⟩ : ∃ m : Nat, n = m := ⟨n.toNat, by have := ok.n0; omega⟩
  have hlen : (eccL m (natL l)).length = m := eccL_len _ _
  have hget : ∀ k, k < m → (eccL m (natL l)).getD k default = maxI (farL m (natL l) k) := fun k hk => by unfold eccL; exact range_getD _ hk
  have hfl : ∀ k, k < m → (farL m (natL l) k).length = m := fun k hk => (far_spec (by omega) hg hk).1
  have hfe := fun k (hk : k < m) => farE_zero (f := (k : Int)) hc (by omega) (by omega)
  simp (implicitDefEqProofs := false) (dsimp := false) only [Int.toNat_natCast] at hlen hget hfl hfe hg
  rw [Int.toNat_natCast]
  generalize hE : eccL m (natL l) = E at *
  refine FnR.go Try.func16 rfl rfl Try.results16 Try.ntmps16 ?_
  simp (implicitDefEqProofs := false) (dsimp := false) only [↓aw_seq, ↓aw_block, ↓aw_loop, ↓aw_reg, ↓Qseq_n, ↓ops_nil, ↓ops_cons, ↓eval_tmp, ↓eval_int, ↓eval_nil, ↓put_some, ↓op_move, ↓op_assign, List.getD_cons_zero, List.set_cons_zero, List.set_cons_succ, List.cons_append, List.nil_append, List.map_cons, List.map_nil, List.length_cons, List.length_nil, Nat.reduceAdd, Nat.reduceSub, Nat.reduceMul, Nat.zero_add, List.replicate, evK_go, reduceIte, Nat.reduceEqDiff, Nat.reduceLT, Int.zero_add]
  refine loopW (fun k : Nat => { tm := slots 27 [(0, .d (I .i64 (m : Int))), (1, .d (.l (l.map lnD))), (5, .o 0 0 k), (9, .d (I .i64 (m : Int))), (10, .d (I .i64 k))], bx := [], rw := [some ⟨1, (E.take k).map (I .i64)⟩] })
    (fun k => k ≤ m) (fun k => m - k) 0 (by simp) ?_ ?_
  · refine Wkn.of [] [none] ?_
    simp (implicitDefEqProofs := false) (dsimp := false) only [↓row_xs, List.set_cons_zero, List.set_cons_succ, List.map_nil, Bool.and_self, Nat.reduceAdd, Nat.reduceSub, Nat.reduceMul, List.replicate, evK_go, reduceIte, Nat.reduceEqDiff, Nat.reduceLT, and_self, List.take_zero, List.foldl_cons, List.foldl_nil, Int.cast_ofNat_Int, slots, wkL_nil, wkL_cons, wkB_nil, wkR_nil, wkR_new, wkV_j, wkV_d, nlK_nl, wkV_o, frz_d, oK_zn, reduceCtorEq]
  · intro k hk
    simp (implicitDefEqProofs := false) (dsimp := false) only [slots, ↓aw_cond, ↓aw_seq, ↓aw_reg, ↓Qseq_n, ↓ops_nil, ↓ops_cons, ↓eval_tmp, ↓put_some, ↓bK_b, ↓binE_i, ↓bi_lss, ↓op_bin, List.getD_cons_zero, List.getD_cons_succ, List.set_cons_zero, List.set_cons_succ, Nat.reduceAdd, Nat.reduceSub, Nat.reduceMul, List.replicate, evK_go, reduceIte, Nat.reduceEqDiff, Nat.reduceLT, List.foldl_cons, List.foldl_nil, Int.ofNat_lt]
    refine cdK_dec (fun h => ?_) (fun h => ?_)
    · obtain ⟨f1, f2⟩ := hfe k h
      have f3 := hfl k h
      have hm : 0 < (farL m (natL l) k).length ∧ (farL m (natL l) k).length < 2 ^ 62 := by omega
      have hs := take_succ_getD (l := E) (k := k) (by omega)
      rw [hget k h] at hs
      simp (implicitDefEqProofs := false) (dsimp := false) only [wfrom_call, h62, f1, f2, smax_call, hm, ↓optK_some, ↓rwK_mk_, ↓nthK_H, ↓nthH_zero, ↓nthH_succ, ↓aw_seq, ↓aw_block, ↓aw_skip, ↓aw_reg, ↓Qseq_n, ↓Qblk_n, ↓ops_nil, ↓ops_cons, ↓eval_tmp, ↓eval_int, ↓eval_func, ↓put_some, ↓dK_d, ↓tK_t, ↓binE_i, ↓bi_add, ↓in_i64, ↓op_move, ↓op_assign, ↓op_bin, ↓op_extract, ↓op_append, ↓op_call, isD_d, ↓fnK_f, ↓call_H, ↓callK_H, ↓allT_nil, ↓allT_cons, ↓allD_nil, ↓allD_cons, ↓td_d, ↓app_mk, ↓row_sz, ↓row_xs, kill_d, kill_j, kill_o, ↓cells_c, ↓one_i, ↓ap_, ↓ap_o, ↓src_l, ↓bs_, ↓op_bs, ↓bsL_f, ↓stored_mk, ↓sl_nil, ↓sl_cons, ↓sT_move, ↓sT_assign, ↓sT_bs, ↓sT_call, ↓vsz_int, ↓inO_1, ↓fm_nil, ↓fm_cons, ↓ty3, ↓zb3, ↓sl29, List.getD_cons_zero, List.getD_cons_succ, List.set_cons_zero, List.set_cons_succ, List.append_nil, List.map_cons, List.map_nil, List.length_cons, List.length_nil, List.length_map, List.all_cons, List.all_nil, Bool.true_and, Bool.and_self, Bool.true_or, Bool.or_false, Nat.reduceAdd, Nat.reduceSub, Nat.reduceMul, Nat.zero_add, evK_go, reduceIte, Nat.reduceEqDiff, Nat.reduceLT, and_self, true_and, Int.zero_add, List.drop_zero]
      (repeat refine OrH.l ?_)
      refine ⟨by decide, ⟨fun _ => trivial, by simp; omega, by omega, by omega⟩, by omega, k + 1, by omega, by omega, ?_⟩
      refine Wkn.of [] [some 0] ?_
      simp (implicitDefEqProofs := false) (dsimp := false) only [hs, List.map_append, List.getD_cons_zero, List.set_cons_zero, List.set_cons_succ, List.map_cons, List.map_nil, Bool.and_self, Nat.reduceAdd, Nat.reduceSub, Nat.reduceMul, List.replicate, evK_go, reduceIte, Nat.reduceEqDiff, Nat.reduceLT, and_self, List.foldl_cons, List.foldl_nil, Int.cast_ofNat_Int, Int.natCast_add, slots, wkL_nil, wkL_cons, wkB_nil, wkR_nil, wkR_some, wkV_j, wkV_d, wkV_o, frz_d, oK_zs, reduceCtorEq]
    · obtain rfl : k = m := by omega
      have e1 : List.take k (List.map (I .i64) (List.take k E)) = E.map (I .i64) := by rw [List.take_of_length_le (l := E) (by omega), List.take_of_length_le (by simp; omega)]
      simp (implicitDefEqProofs := false) (dsimp := false) only [e1, ↓optK_some, ↓rwK_mk_, ↓aw_seq, ↓aw_exit, ↓aw_ret, ↓aw_reg, ↓Qseq_n, ↓Qseq_x, ↓Qblk_x, ↓ops_nil, ↓ops_cons, ↓eval_tmp, ↓put_some, ↓op_move, ↓op_assign, ↓row_sz, ↓row_xs, ↓Qrow_r, ↓rowK_o, List.getD_cons_zero, List.getD_cons_succ, List.set_cons_zero, List.set_cons_succ, Bool.and_self, Nat.reduceAdd, Nat.reduceSub, Nat.reduceMul, evK_go, reduceIte, decide_false, Nat.reduceEqDiff, Nat.reduceLT, and_self, Nat.lt_irrefl]
theorem tfar_callD (n : Int) (l : List (Int × Int)) (pure : Bool) (σ : St) (dst : Option Tmp) (K : St → Prop) : CallH Try.prog 16 [I .i64 n, .l (l.map lnD)] pure σ dst (.mk : Hid K) = OrH ((chk n l = 0 ∧ l.length < 2 ^ 62) ∧ (pure || D.flat (.l ((eccL n.toNat (natL l)).map (I .i64)))) = true ∧ evK (σ.put dst (.d (.l ((eccL n.toNat (natL l)).map (I .i64))))) (.mk : Hid K)) (.mk : Hid (CallH Try.prog 16 [I .i64 n, .l (l.map lnD)] pure σ dst (.mk : Hid K))) := CallH.eq (fun h => ((fun h => tfar_spec n l h) h).data) pure σ dst K
theorem tlong_spec (n : Int) (l : List (Int × Int)) (hpre : l.length < 2 ^ 62) : FnD Try.prog 5 [I .i64 n, .l (l.map lnD)] (.t [I .i64 (longI n l), erD (tchk n l)]) := by
  refine FnD.go Try.func5 rfl rfl Try.results5 Try.ntmps5 ?_
  simp (implicitDefEqProofs := false) (dsimp := false) only [↓aw_seq, ↓aw_reg, ↓Qseq_n, ↓ops_nil, ↓ops_cons, ↓eval_tmp, ↓eval_int, ↓eval_func, ↓put_some, ↓op_move, ↓op_assign, ↓op_call, isD_d, ↓fnK_f, ↓call_H, ↓callK_H, ↓allT_nil, ↓allT_cons, ↓td_d, List.getD_cons_zero, List.getD_cons_succ, List.set_cons_zero, List.set_cons_succ, List.cons_append, List.nil_append, List.append_nil, List.map_cons, List.map_nil, List.length_cons, List.length_nil, List.all_cons, List.all_nil, Bool.and_self, Nat.reduceAdd, Nat.reduceSub, Nat.reduceMul, Nat.zero_add, List.replicate, evK_go, reduceIte, Nat.reduceEqDiff, Nat.reduceLT, and_self, Int.zero_add]
  simp (implicitDefEqProofs := false) (dsimp := false) only [tcheck_call, hpre, eval_nilI, ↓er_neq, er_flat, ↓cdK_not, ↓aw_cond, ↓aw_seq, ↓aw_reg, ↓Qseq_n, ↓ops_nil, ↓ops_cons, ↓eval_tmp, ↓put_some, ↓bK_b, ↓op_move, ↓op_assign, ↓op_bin, List.getD_cons_zero, List.getD_cons_succ, List.set_cons_zero, List.set_cons_succ, Bool.true_and, Bool.or_true, Nat.reduceAdd, Nat.reduceSub, Nat.reduceMul, evK_go, reduceIte, Nat.reduceEqDiff, Nat.reduceLT, true_and]
  (repeat refine OrH.l ?_)
  refine cdK_dec (fun hc => ?_) (fun hc => ?_)
  rotate_left
  · have e : longI n l = 0 := if_neg hc
    simp (implicitDefEqProofs := false) (dsimp := false) only [e, ↓aw_seq, ↓aw_ret, ↓aw_reg, ↓Qseq_n, ↓Qseq_r, ↓Qret_r, ↓ops_nil, ↓ops_cons, ↓eval_tmp, ↓eval_int, ↓put_some, ↓op_move, ↓op_assign, ↓td_d, ↓ret_2, List.getD_cons_zero, List.getD_cons_succ, List.set_cons_zero, List.set_cons_succ, Nat.reduceAdd, Nat.reduceSub, Nat.reduceMul, evK_go, reduceIte, Nat.reduceEqDiff, Nat.reduceLT]
  obtain ⟨hk, hT⟩ := tchk_zero hc
  have ok := chk_ok hk
  have h8 := ok.hi
  have hlo := ok.lo
  have hE := eccL_len n.toNat (natL l)
  have hm : 0 < (eccL n.toNat (natL l)).length ∧ (eccL n.toNat (natL l)).length < 2 ^ 62 := by omega
  have hp : chk n l = 0 ∧ l.length < 2 ^ 62 := ⟨hk, hpre⟩
  rw [show longI n l = maxI (eccL n.toNat (natL l)) from if_pos hc, hc]
  simp (implicitDefEqProofs := false) (dsimp := false) only [tfar_callD, hp, smax_call, hm, erD_0, eval_nilI, ↓aw_seq, ↓aw_ret, ↓aw_skip, ↓aw_reg, ↓Qseq_n, ↓Qret_r, ↓ops_nil, ↓ops_cons, ↓eval_tmp, ↓eval_func, ↓put_some, ↓op_move, ↓op_assign, ↓op_call, ↓orH_T, isD_d, ↓fnK_f, ↓call_H, ↓callK_H, ↓allT_nil, ↓allT_cons, ↓td_d, ↓ret_2, List.getD_cons_zero, List.getD_cons_succ, List.set_cons_zero, List.set_cons_succ, List.append_nil, List.all_cons, List.all_nil, Bool.and_self, Bool.true_or, Nat.reduceAdd, Nat.reduceSub, Nat.reduceMul, evK_go, reduceIte, decide_true, Bool.not_true, Nat.reduceEqDiff, Nat.reduceLT, and_self]
  (repeat refine OrH.l ?_)
  skip
theorem tlong_call (n : Int) (l : List (Int × Int)) (pure : Bool) (σ : St) (dst : Option Tmp) (K : St → Prop) : CallH Try.prog 5 [I .i64 n, .l (l.map lnD)] pure σ dst (.mk : Hid K) = OrH ((l.length < 2 ^ 62) ∧ (pure || D.flat (.t [I .i64 (longI n l), erD (tchk n l)])) = true ∧ evK (σ.put dst (.d (.t [I .i64 (longI n l), erD (tchk n l)]))) (.mk : Hid K)) (.mk : Hid (CallH Try.prog 5 [I .i64 n, .l (l.map lnD)] pure σ dst (.mk : Hid K))) := CallH.eq (tlong_spec n l) pure σ dst K
def midR (n : Int) (l : List (Int × Int)) : List Nat := if tchk n l = 0 then midL n.toNat (natL l) else []
def midD (n : Int) (l : List (Int × Int)) : Int := if tchk n l = 0 then minI (eccL n.toNat (natL l)) else 0
def midK (E : List Int) (x : Int) (k : Nat) : List Nat := (List.range k).filter fun i => decide (E.getD i default = x)
theorem midK_succ (E : List Int) (x : Int) (k : Nat) : midK E x (k + 1) = if E.getD k default = x then midK E x k ++ [k] else midK E x k := by
  unfold midK
  rw [List.range_succ, List.filter_append]
  by_cases h : E.getD k default = x
  · rw [if_pos h, List.filter_cons_of_pos (by simpa using h), List.filter_nil]
  · rw [if_neg h, List.filter_cons_of_neg (by simpa using h), List.filter_nil, List.append_nil]
theorem midK_len (E : List Int) (x : Int) (k : Nat) : (midK E x k).length ≤ k := by
  have := List.length_filter_le (fun i => decide (E.getD i default = x)) (List.range k)
  simpa [midK] using this
theorem tmid_spec (n : Int) (l : List (Int × Int)) (hpre : l.length < 2 ^ 62) : FnD Try.prog 7 [I .i64 n, .l (l.map lnD)] (.t [.l ((midR n l).map nD), I .i64 (midD n l), erD (tchk n l)]) := by
  refine FnD.go Try.func7 rfl rfl Try.results7 Try.ntmps7 ?_
  simp (implicitDefEqProofs := false) (dsimp := false) only [↓aw_seq, ↓aw_reg, ↓Qseq_n, ↓ops_nil, ↓ops_cons, ↓eval_tmp, ↓eval_int, ↓eval_nil, ↓eval_func, ↓put_some, ↓op_move, ↓op_assign, ↓op_call, isD_d, ↓fnK_f, ↓call_H, ↓callK_H, ↓allT_nil, ↓allT_cons, ↓td_d, List.getD_cons_zero, List.getD_cons_succ, List.set_cons_zero, List.set_cons_succ, List.cons_append, List.nil_append, List.append_nil, List.map_cons, List.map_nil, List.length_cons, List.length_nil, List.all_cons, List.all_nil, Bool.and_self, Nat.reduceAdd, Nat.reduceSub, Nat.reduceMul, Nat.zero_add, List.replicate, evK_go, reduceIte, Nat.reduceEqDiff, Nat.reduceLT, and_self, Int.zero_add]
  simp (implicitDefEqProofs := false) (dsimp := false) only [tcheck_call, hpre, eval_nilI, ↓er_neq, er_flat, ↓cdK_not, ↓aw_cond, ↓aw_seq, ↓aw_reg, ↓Qseq_n, ↓ops_nil, ↓ops_cons, ↓eval_tmp, ↓put_some, ↓bK_b, ↓op_move, ↓op_assign, ↓op_bin, List.getD_cons_zero, List.getD_cons_succ, List.set_cons_zero, List.set_cons_succ, Bool.true_and, Bool.or_true, Nat.reduceAdd, Nat.reduceSub, Nat.reduceMul, evK_go, reduceIte, Nat.reduceEqDiff, Nat.reduceLT, true_and]
  (repeat refine OrH.l ?_)
  refine cdK_dec (fun hc => ?_) (fun hc => ?_)
  rotate_left
  · have e : midR n l = [] := if_neg hc
    have e2 : midD n l = 0 := if_neg hc
    simp (implicitDefEqProofs := false) (dsimp := false) only [e, e2, ↓aw_seq, ↓aw_ret, ↓aw_reg, ↓Qseq_n, ↓Qseq_r, ↓Qret_r, ↓ops_nil, ↓ops_cons, ↓eval_tmp, ↓eval_int, ↓eval_nil, ↓put_some, ↓op_move, ↓op_assign, ↓td_d, ↓td_nl, ↓ret_3, List.getD_cons_zero, List.getD_cons_succ, List.set_cons_zero, List.set_cons_succ, List.map_nil, Nat.reduceAdd, Nat.reduceSub, Nat.reduceMul, evK_go, reduceIte, Nat.reduceEqDiff, Nat.reduceLT]
  obtain ⟨hk, hT⟩ := tchk_zero hc
  have ok := chk_ok hk
  have h8 := ok.hi
  have hlo := ok.lo
  have hE := eccL_len n.toNat (natL l)
  have hm : 0 < (eccL n.toNat (natL l)).length ∧ (eccL n.toNat (natL l)).length < 2 ^ 62 := by omega
  have hp : chk n l = 0 ∧ l.length < 2 ^ 62 := ⟨hk, hpre⟩
  have hR : midR n l = midK (eccL n.toNat (natL l)) (minI (eccL n.toNat (natL l))) n.toNat := if_pos hc
  have hD : midD n l = minI (eccL n.toNat (natL l)) := if_pos hc
  rw [hR, hD, hc]
  simp (implicitDefEqProofs := false) (dsimp := false) only [tfar_callD, hp, smin_call, hm, ↓aw_seq, ↓aw_block, ↓aw_skip, ↓aw_loop, ↓aw_reg, ↓Qseq_n, ↓ops_nil, ↓ops_cons, ↓eval_tmp, ↓eval_int, ↓eval_nil, ↓eval_func, ↓put_some, ↓lenK_l, ↓op_move, ↓op_assign, ↓op_len, ↓op_call, isD_d, ↓fnK_f, ↓call_H, ↓callK_H, ↓allT_nil, ↓allT_cons, ↓td_d, ↓sl29, List.getD_cons_zero, List.getD_cons_succ, List.set_cons_zero, List.set_cons_succ, List.append_nil, List.length_map, List.all_cons, List.all_nil, Bool.true_and, Bool.and_self, Bool.true_or, Nat.reduceAdd, Nat.reduceSub, Nat.reduceMul, evK_go, reduceIte, decide_true, Bool.not_true, Nat.reduceEqDiff, Nat.reduceLT, and_self, true_and]
  (repeat refine OrH.l ?_)
  generalize eccL n.toNat (natL l) = E at *
  generalize minI E = x at *
  rw [← hE]
  have hE8 : E.length ≤ 8 := by omega
  refine loopW (fun k : Nat => { tm := slots 41 [(9, .d (I .i64 x)), (10, .o 0 0 (midK E x k).length), (24, .d (.l (E.map (I .i64)))), (25, .d (I .i64 E.length)), (26, .d (I .i64 k))], bx := [], rw := [some ⟨1, (midK E x k).map nD⟩] })
    (fun k => k ≤ E.length) (fun k => E.length - k) 0 (by simp) ?_ ?_
  · refine Wkn.of [] [none] ?_
    simp (implicitDefEqProofs := false) (dsimp := false) only [midK, List.range_zero, List.filter_nil, ↓row_xs, List.set_cons_zero, List.set_cons_succ, List.map_nil, List.length_nil, Bool.and_self, Nat.reduceAdd, Nat.reduceSub, Nat.reduceMul, List.replicate, evK_go, reduceIte, Nat.reduceEqDiff, Nat.reduceLT, and_self, List.foldl_cons, List.foldl_nil, Int.cast_ofNat_Int, slots, wkL_nil, wkL_cons, wkB_nil, wkR_nil, wkR_new, wkV_j, wkV_d, nlK_nl, wkV_o, frz_d, oK_zn, reduceCtorEq]
  · intro k hk
    have hs := midK_succ E x k
    have hl := midK_len E x k
    simp (implicitDefEqProofs := false) (dsimp := false) only [slots, ↓aw_cond, ↓aw_seq, ↓aw_reg, ↓Qseq_n, ↓ops_nil, ↓ops_cons, ↓eval_tmp, ↓put_some, ↓bK_b, ↓binE_i, ↓bi_lss, ↓op_bin, List.getD_cons_zero, List.getD_cons_succ, List.set_cons_zero, List.set_cons_succ, Nat.reduceAdd, Nat.reduceSub, Nat.reduceMul, List.replicate, evK_go, reduceIte, Nat.reduceEqDiff, Nat.reduceLT, List.foldl_cons, List.foldl_nil, Int.ofNat_lt]
    refine cdK_dec (fun h => ?_) (fun h => ?_)
    · simp (implicitDefEqProofs := false) (dsimp := false) only [h, ↓atK_H, ↓atH_map, ↓aw_cond, ↓aw_seq, ↓aw_block, ↓aw_skip, ↓aw_reg, ↓Qseq_n, ↓ops_nil, ↓ops_cons, ↓eval_tmp, ↓put_some, ↓bK_b, ↓iK_i, ↓binE_i, ↓bi_eql, ↓ldK_q, ↓iaK_l, ↓op_move, ↓op_assign, ↓op_load, ↓op_bin, ↓op_ia, ↓cells_c, ↓hd_cons, ↓ty3, ↓sl29, List.getD_cons_zero, List.getD_cons_succ, List.set_cons_zero, List.set_cons_succ, List.length_cons, List.length_nil, Bool.true_and, Nat.reduceAdd, Nat.reduceSub, Nat.reduceMul, Nat.zero_add, Int.toNat_natCast, evK_go, reduceIte, decide_true, Nat.reduceEqDiff, Nat.reduceLT, true_and, Int.zero_add, Int.natCast_nonneg]
      refine cdK_dec (fun h2 => ?_) (fun h2 => ?_)
      · rw [if_pos h2] at hs
        simp (implicitDefEqProofs := false) (dsimp := false) only [↓optK_some, ↓rwK_mk_, ↓aw_reg, ↓Qseq_n, ↓Qblk_n, ↓ops_nil, ↓ops_cons, ↓eval_tmp, ↓eval_int, ↓put_some, ↓dK_d, ↓binE_i, ↓bi_add, ↓in_i64, ↓op_move, ↓op_assign, ↓op_bin, ↓op_append, ↓allD_nil, ↓allD_cons, ↓app_mk, ↓row_sz, ↓row_xs, kill_d, kill_j, kill_o, ↓cells_c, ↓one_i, ↓ap_, ↓ap_o, ↓src_l, ↓bs_, ↓op_bs, ↓bsL_f, ↓stored_mk, ↓sl_nil, ↓sl_cons, ↓sT_move, ↓sT_assign, ↓sT_bs, ↓sT_call, ↓vsz_int, ↓inO_1, ↓fm_nil, ↓fm_cons, ↓ty3, ↓zb3, ↓sl29, List.getD_cons_zero, List.getD_cons_succ, List.set_cons_zero, List.set_cons_succ, List.map_cons, List.map_nil, List.length_cons, List.length_nil, List.length_map, List.all_cons, List.all_nil, Bool.true_and, Bool.and_self, Bool.or_false, Nat.reduceAdd, Nat.reduceSub, Nat.reduceMul, Nat.zero_add, evK_go, reduceIte, Nat.reduceEqDiff, Nat.reduceLT, and_self, true_and, Int.zero_add, List.drop_zero]
        refine ⟨by decide, ⟨fun _ => trivial, by omega, by omega⟩, by omega, k + 1, by omega, by omega, ?_⟩
        refine Wkn.of [] [some 0] ?_
        simp (implicitDefEqProofs := false) (dsimp := false) only [hs, List.map_append, List.length_append, nD, List.getD_cons_zero, List.set_cons_zero, List.set_cons_succ, List.map_cons, List.map_nil, List.length_cons, List.length_nil, Bool.and_self, Nat.reduceAdd, Nat.reduceSub, Nat.reduceMul, Nat.zero_add, List.replicate, evK_go, reduceIte, Nat.reduceEqDiff, Nat.reduceLT, and_self, Int.zero_add, List.foldl_cons, List.foldl_nil, Int.cast_ofNat_Int, Int.natCast_add, slots, wkL_nil, wkL_cons, wkB_nil, wkR_nil, wkR_some, wkV_j, wkV_d, wkV_o, frz_d, oK_zs, reduceCtorEq]
      · rw [if_neg h2] at hs
        simp (implicitDefEqProofs := false) (dsimp := false) only [↓aw_skip, ↓aw_reg, ↓Qseq_n, ↓Qblk_n, ↓ops_nil, ↓ops_cons, ↓eval_tmp, ↓eval_int, ↓put_some, ↓binE_i, ↓bi_add, ↓in_i64, ↓op_move, ↓op_bin, List.getD_cons_zero, List.getD_cons_succ, List.set_cons_zero, List.set_cons_succ, Nat.reduceAdd, Nat.reduceSub, Nat.reduceMul, evK_go, reduceIte, Nat.reduceEqDiff, Nat.reduceLT]
        refine ⟨by omega, k + 1, by omega, by omega, ?_⟩
        refine Wkn.of [] [some 0] ?_
        simp (implicitDefEqProofs := false) (dsimp := false) only [hs, List.getD_cons_zero, List.set_cons_zero, List.set_cons_succ, Bool.and_self, Nat.reduceAdd, Nat.reduceSub, Nat.reduceMul, List.replicate, evK_go, reduceIte, Nat.reduceEqDiff, Nat.reduceLT, and_self, List.foldl_cons, List.foldl_nil, Int.cast_ofNat_Int, Int.natCast_add, slots, wkL_nil, wkL_cons, wkB_nil, wkR_nil, wkR_some, wkV_j, wkV_d, wkV_o, frz_d, oK_zs, reduceCtorEq]
    · obtain rfl : k = E.length := by omega
      have e1 : List.take (midK E x E.length).length (List.map nD (midK E x E.length)) = List.map nD (midK E x E.length) := List.take_of_length_le (by simp)
      simp (implicitDefEqProofs := false) (dsimp := false) only [e1, erD_0, eval_nilI, ↓optK_some, ↓rwK_mk_, ↓aw_seq, ↓aw_exit, ↓aw_ret, ↓aw_reg, ↓Qseq_n, ↓Qseq_x, ↓Qblk_x, ↓Qret_r, ↓ops_nil, ↓ops_cons, ↓eval_tmp, ↓put_some, ↓op_move, ↓op_assign, ↓td_d, ↓td_o, ↓ret_3, ↓row_xs, List.getD_cons_zero, List.getD_cons_succ, List.set_cons_zero, List.set_cons_succ, Nat.reduceAdd, Nat.reduceSub, Nat.reduceMul, evK_go, reduceIte, decide_false, Nat.reduceEqDiff, Nat.reduceLT, Nat.lt_irrefl, List.drop_zero]
theorem tmid_call (n : Int) (l : List (Int × Int)) (pure : Bool) (σ : St) (dst : Option Tmp) (K : St → Prop) : CallH Try.prog 7 [I .i64 n, .l (l.map lnD)] pure σ dst (.mk : Hid K) = OrH ((l.length < 2 ^ 62) ∧ (pure || D.flat (.t [.l ((midR n l).map nD), I .i64 (midD n l), erD (tchk n l)])) = true ∧ evK (σ.put dst (.d (.t [.l ((midR n l).map nD), I .i64 (midD n l), erD (tchk n l)]))) (.mk : Hid K)) (.mk : Hid (CallH Try.prog 7 [I .i64 n, .l (l.map lnD)] pure σ dst (.mk : Hid K))) := CallH.eq (tmid_spec n l) pure σ dst K
end Go.Proofs

namespace Go.Proofs
open Go.Aw
set_option linter.unusedSimpArgs false
set_option maxRecDepth 10000
def upR (n : Int) (l : List (Int × Int)) (r : Int) : List Int := if tchk n l = 0 then (if inB r 0 (n - 1) = true then upL n.toNat (natL l) r.toNat else []) else []
def upE (n : Int) (l : List (Int × Int)) (r : Int) : Int := if tchk n l = 0 then (if inB r 0 (n - 1) = true then 0 else 1) else tchk n l
theorem upK_len (far : List Int) (L : List (Nat × Nat)) (m r k : Nat) : ((L.take k).foldl (upI far) ((List.replicate m 0).set r (-1))).length = m := by
  rw [upL_len]; simp
theorem ups_spec (n : Int) (l : List (Int × Int)) (r : Int) (hpre : l.length < 2 ^ 62) : FnD Try.prog 18 [I .i64 n, .l (l.map lnD), I .i64 r] (.t [.l ((upR n l r).map (I .i64)), erD (upE n l r)]) := by
  refine FnD.go Try.func18 rfl rfl Try.results18 Try.ntmps18 ?_
  simp (implicitDefEqProofs := false) (dsimp := false) only [↓aw_seq, ↓aw_reg, ↓Qseq_n, ↓ops_nil, ↓ops_cons, ↓eval_tmp, ↓eval_nil, ↓eval_func, ↓put_some, ↓op_move, ↓op_assign, ↓op_call, isD_d, ↓fnK_f, ↓call_H, ↓callK_H, ↓allT_nil, ↓allT_cons, ↓td_d, List.getD_cons_zero, List.getD_cons_succ, List.set_cons_zero, List.set_cons_succ, List.cons_append, List.nil_append, List.append_nil, List.map_cons, List.map_nil, List.length_cons, List.length_nil, List.all_cons, List.all_nil, Bool.and_self, Nat.reduceAdd, Nat.reduceSub, Nat.reduceMul, Nat.zero_add, List.replicate, evK_go, reduceIte, Nat.reduceEqDiff, Nat.reduceLT, and_self, Int.zero_add]
  simp (implicitDefEqProofs := false) (dsimp := false) only [tcheck_call, hpre, eval_nilI, ↓er_neq, er_flat, ↓cdK_not, ↓aw_cond, ↓aw_seq, ↓aw_reg, ↓Qseq_n, ↓ops_nil, ↓ops_cons, ↓eval_tmp, ↓put_some, ↓bK_b, ↓op_move, ↓op_assign, ↓op_bin, List.getD_cons_zero, List.getD_cons_succ, List.set_cons_zero, List.set_cons_succ, Bool.true_and, Bool.or_true, Nat.reduceAdd, Nat.reduceSub, Nat.reduceMul, evK_go, reduceIte, Nat.reduceEqDiff, Nat.reduceLT, true_and]
  (repeat refine OrH.l ?_)
  refine cdK_dec (fun hc => ?_) (fun hc => ?_)
  rotate_left
  · have e : upR n l r = [] := if_neg hc
    have e2 : upE n l r = tchk n l := if_neg hc
    simp (implicitDefEqProofs := false) (dsimp := false) only [e, e2, ↓aw_seq, ↓aw_ret, ↓aw_reg, ↓Qseq_n, ↓Qseq_r, ↓Qret_r, ↓ops_nil, ↓ops_cons, ↓eval_tmp, ↓eval_nil, ↓put_some, ↓op_move, ↓op_assign, ↓td_d, ↓td_nl, ↓ret_2, List.getD_cons_zero, List.getD_cons_succ, List.set_cons_zero, List.set_cons_succ, List.map_nil, Nat.reduceAdd, Nat.reduceSub, Nat.reduceMul, evK_go, reduceIte, Nat.reduceEqDiff, Nat.reduceLT]
  obtain ⟨hk, hT⟩ := tchk_zero hc
  have ok := chk_ok hk
  have h8 := ok.hi
  have hlo := ok.lo
  have hrng := ok.rng
  have hg := ok.good
  have e0 := ok.n0
  have hln := ok.len
  rw [show upR n l r = (if inB r 0 (n - 1) = true then upL n.toNat (natL l) r.toNat else []) from if_pos hc, show upE n l r = (if inB r 0 (n - 1) = true then 0 else 1) from if_pos hc, hc]
  clear hc ok hT
  obtain ⟨m, rfl⟩ : ∃ m : Nat, n = m := ⟨n.toNat, e0⟩
  simp (implicitDefEqProofs := false) (dsimp := false) only [Int.toNat_natCast] at h8 hlo hg ⊢
  simp (implicitDefEqProofs := false) (dsimp := false) only [within_call, ↓cdK_not, ↓aw_cond, ↓aw_seq, ↓aw_skip, ↓aw_reg, ↓Qseq_n, ↓ops_nil, ↓ops_cons, ↓eval_tmp, ↓eval_int, ↓eval_func, ↓put_some, ↓bK_b, ↓binE_i, ↓bi_sub, ↓in_i64, ↓op_move, ↓op_bin, ↓op_not, ↓op_call, isD_d, ↓fnK_f, ↓call_H, ↓callK_H, ↓allT_nil, ↓allT_cons, ↓td_d, List.getD_cons_zero, List.getD_cons_succ, List.set_cons_zero, List.set_cons_succ, List.append_nil, List.all_cons, List.all_nil, Bool.true_and, Bool.and_self, Bool.true_or, Nat.reduceAdd, Nat.reduceSub, Nat.reduceMul, evK_go, reduceIte, decide_true, Bool.not_true, Nat.reduceEqDiff, Nat.reduceLT, and_self, true_and]
  refine ⟨by omega, ?_⟩
  (repeat refine OrH.l ?_)
  refine cdK_split (fun hb => ?_) (fun hb => ?_)
  rotate_left
  · rw [if_neg (by rw [hb]; decide), if_neg (by rw [hb]; decide)]
    simp (implicitDefEqProofs := false) (dsimp := false) only [nc43, erD_1, ↓aw_seq, ↓aw_ret, ↓aw_reg, ↓Qseq_n, ↓Qseq_r, ↓Qret_r, ↓ops_nil, ↓ops_cons, ↓eval_tmp, ↓eval_int, ↓eval_nil, ↓put_some, ↓vK_c, ↓op_assign, ↓op_iface, ↓td_d, ↓td_nl, ↓ret_2, ↓nc43, List.getD_cons_zero, List.getD_cons_succ, List.set_cons_zero, List.set_cons_succ, List.map_nil, Bool.and_self, Nat.reduceAdd, Nat.reduceSub, Nat.reduceMul, evK_go, reduceIte, Nat.reduceEqDiff, Nat.reduceLT, and_self]
    skip
  obtain ⟨hb1, hb2⟩ := inW_iff.1 hb
  obtain ⟨r', rfl⟩ : ∃ r' : Nat, r = r' := ⟨r.toNat, by omega⟩
  obtain ⟨f1, f2⟩ := farE_zero hk hb1 (by omega)
  simp (implicitDefEqProofs := false) (dsimp := false) only [Int.toNat_natCast] at f2
  rw [if_pos hb, if_pos hb, Int.toNat_natCast]
  have hrm : r' < m := by omega
  have hfl : (farL m (natL l) r').length = m := (far_spec (by omega) hg hrm).1
  have hup : upL m (natL l) r' = (natL l).foldl (upI (farL m (natL l) r')) ((List.replicate m 0).set r' (-1)) := rfl
  rw [hup]
  have hll := natL_len l
  simp (implicitDefEqProofs := false) (dsimp := false) only [wfrom_call, hpre, f1, f2, hrm, eval_nilI, ↓er_neq, ↓cdK_false, ↓optK_some, ↓rwK_mk_, ↓nthK_H, ↓nthH_zero, ↓nthH_succ, ↓aw_cond, ↓aw_seq, ↓aw_block, ↓aw_skip, ↓aw_loop, ↓aw_reg, ↓Qseq_n, ↓ops_nil, ↓ops_cons, ↓eval_tmp, ↓eval_int, ↓eval_func, ↓put_some, ↓put_none, ↓bK_b, ↓iK_i, ↓dK_d, ↓lenK_l, ↓tK_t, ↓iaK_o, ↓op_move, ↓op_assign, ↓op_bin, ↓op_ia, ↓op_extract, ↓op_len, ↓op_call, ↓op_store, ↓op_make, isD_d, ↓fnK_f, ↓call_H, ↓callK_H, ↓allT_nil, ↓allT_cons, ↓td_d, ↓addRow_mk, ↓setRow_mk, ↓st_rw, ↓row_sz, ↓row_xs, ↓cells_c, ↓one_i, constV_i, ↓st_e, ↓mk_, ↓vsz_int, ↓ty3, ↓zb3, ↓sl22, ↓sl29, List.getD_cons_zero, List.getD_cons_succ, List.set_cons_zero, List.set_cons_succ, List.nil_append, List.append_nil, List.length_cons, List.length_nil, List.length_map, List.all_cons, List.all_nil, Bool.and_true, Bool.true_and, Bool.and_self, Bool.true_or, Nat.reduceAdd, Nat.reduceSub, Nat.reduceMul, Nat.zero_add, Int.toNat_natCast, evK_go, reduceIte, decide_true, Bool.not_true, Nat.reduceEqDiff, Nat.reduceLT, and_self, true_and, and_true, Int.zero_add, Int.ofNat_lt, Int.natCast_nonneg]
  (repeat refine OrH.l ?_)
  refine ⟨⟨by omega, by decide⟩, ?_⟩
  rw [lnD_nat hrng, ← natL_len l]
  clear hup hrng hpre hk hb hb1 hb2 f1 f2
  generalize farL m (natL l) r' = F at *
  generalize natL l = L at *
  refine loopW (fun k : Nat => { tm := slots 72 [(9, .d (.l (F.map (I .i64)))), (11, .o 0 0 m), (41, .d (.l (L.map lnN))), (42, .d (I .i64 L.length)), (43, .d (I .i64 k))], bx := [], rw := [some ⟨1, ((L.take k).foldl (upI F) ((List.replicate m 0).set r' (-1))).map (I .i64)⟩] })
    (fun k => k ≤ L.length) (fun k => L.length - k) 0 (by simp) ?_ ?_
  · refine Wkn.of [] [some 0] ?_
    simp (implicitDefEqProofs := false) (dsimp := false) only [List.take_zero, List.foldl_nil, List.map_set, List.map_replicate, List.getD_cons_zero, List.set_cons_zero, List.set_cons_succ, Bool.and_self, Nat.reduceAdd, Nat.reduceSub, Nat.reduceMul, List.replicate, evK_go, reduceIte, Nat.reduceEqDiff, Nat.reduceLT, and_self, List.take_zero, List.foldl_cons, List.foldl_nil, Int.cast_ofNat_Int, slots, wkL_nil, wkL_cons, wkB_nil, wkR_nil, wkR_some, wkV_j, wkV_d, wkV_o, frz_d, oK_zs, reduceCtorEq]
  · intro k hkL
    have hOl := upK_len F L m r' k
    have hs := fun h => take_succ_getD (l := L) (k := k) h
    simp (implicitDefEqProofs := false) (dsimp := false) only [slots, ↓aw_cond, ↓aw_seq, ↓aw_reg, ↓Qseq_n, ↓ops_nil, ↓ops_cons, ↓eval_tmp, ↓put_some, ↓bK_b, ↓binE_i, ↓bi_lss, ↓op_bin, List.getD_cons_zero, List.getD_cons_succ, List.set_cons_zero, List.set_cons_succ, Nat.reduceAdd, Nat.reduceSub, Nat.reduceMul, List.replicate, evK_go, reduceIte, Nat.reduceEqDiff, Nat.reduceLT, List.foldl_cons, List.foldl_nil, Int.ofNat_lt]
    refine cdK_dec (fun h => ?_) (fun h => ?_)
    · have hgk := hg _ (getD_mem h)
      have hstep : (L.take (k + 1)).foldl (upI F) ((List.replicate m 0).set r' (-1)) = upI F ((L.take k).foldl (upI F) ((List.replicate m 0).set r' (-1))) (L.getD k default) := by rw [hs h, List.foldl_append]; rfl
      have q1 : (L.getD k default).1 < F.length := by omega
      have q2 : (L.getD k default).2 < F.length := by omega
      generalize (L.take k).foldl (upI F) ((List.replicate m 0).set r' (-1)) = O at hOl hstep ⊢
      have q3 : (L.getD k default).1 < O.length := by omega
      have q4 : (L.getD k default).2 < O.length := by omega
      have q5 : (L.getD k default).1 < m := hgk.1
      have q6 : (L.getD k default).2 < m := hgk.2
      simp (implicitDefEqProofs := false) (dsimp := false) only [h, lnN, q1, q2, ↓atK_H, ↓atH_map, ↓nthK_H, ↓nthH_zero, ↓nthH_succ, ↓aw_cond, ↓aw_seq, ↓aw_block, ↓aw_skip, ↓aw_reg, ↓aw_draw, ↓Qseq_n, ↓ops_nil, ↓ops_cons, ↓eval_tmp, ↓put_some, ↓put_none, ↓bK_b, ↓iK_i, ↓ev_move, ↓ev_load, ↓ev_bin, ↓ev_fa, ↓ev_ia, ↓binE_i, ↓bi_lss, ↓ldK_q, ↓ldK_p, ↓faK_p, ↓iaK_l, ↓op_load, ↓op_ia, ↓op_alloc, ↓op_store, ↓draw_H, ↓h_nil, ↓h_cons, ↓ldH_n, ↓q_move, ↓q_load, ↓q_bin, ↓q_fa, ↓q_ia, ↓il_move, ↓il_load, ↓il_bin, ↓il_fa, ↓il_ia, ↓addBox_mk, ↓setBox_mk, ↓st_bx, ↓cells_c, ↓cells_s, ↓vcells_s, ↓one_i, ↓vone_d, constV_a, ↓st_p, ↓hd_cons, ↓ty3, ↓sl22, ↓ty28, ↓zb28, ↓fd28_0, ↓fd28_1, ↓sl29, List.getD_cons_zero, List.getD_cons_succ, List.set_cons_zero, List.set_cons_succ, List.nil_append, List.map_cons, List.map_nil, List.length_cons, List.length_nil, List.all_cons, List.all_nil, Bool.true_and, Bool.and_self, Nat.reduceAdd, Nat.reduceSub, Nat.reduceMul, Nat.zero_add, Nat.add_zero, Int.toNat_natCast, evK_go, reduceIte, decide_true, Nat.reduceEqDiff, Nat.reduceLT, and_self, true_and, Int.zero_add, List.take_succ_cons, List.take_nil, Int.natCast_nonneg]
      refine ⟨by decide, OrH.l ⟨DrawH.of follows_mixed (by kernel_rfl), cdK_dec (fun h2 => ?_) (fun h2 => ?_)⟩⟩
      · have hU : upI F O (L.getD k default) = O.set (L.getD k default).2 ((L.getD k default).1 : Int) := if_pos h2
        simp (implicitDefEqProofs := false) (dsimp := false) only [q6, ↓optK_some, ↓rwK_mk_, ↓nthK_H, ↓nthH_zero, ↓nthH_succ, ↓aw_reg, ↓Qseq_n, ↓Qblk_n, ↓ops_nil, ↓ops_cons, ↓eval_tmp, ↓eval_int, ↓put_some, ↓put_none, ↓iK_i, ↓dK_d, ↓binE_i, ↓bi_add, ↓in_i64, ↓ldK_p, ↓faK_p, ↓iaK_o, ↓op_move, ↓op_load, ↓op_bin, ↓op_fa, ↓op_ia, ↓op_store, ↓setRow_mk, ↓row_sz, ↓row_xs, ↓cells_c, ↓vcells_s, ↓one_i, ↓st_e, ↓ty3, ↓fd28_0, ↓fd28_1, ↓sl29, List.getD_cons_zero, List.getD_cons_succ, List.set_cons_zero, List.set_cons_succ, List.map_cons, List.map_nil, List.length_cons, List.length_nil, List.all_cons, List.all_nil, Bool.true_and, Bool.and_self, Nat.reduceAdd, Nat.reduceSub, Nat.reduceMul, Nat.zero_add, Nat.add_zero, Int.toNat_natCast, evK_go, reduceIte, Nat.reduceEqDiff, Nat.reduceLT, and_self, true_and, Int.zero_add, Int.ofNat_lt, Int.natCast_nonneg]
        refine ⟨by omega, k + 1, by omega, by omega, ?_⟩
        refine Wkn.of [] [some 0] ?_
        simp (implicitDefEqProofs := false) (dsimp := false) only [hstep, hU, List.map_set, List.getD_cons_zero, List.set_cons_zero, List.set_cons_succ, Bool.and_self, Nat.reduceAdd, Nat.reduceSub, Nat.reduceMul, List.replicate, evK_go, reduceIte, Nat.reduceEqDiff, Nat.reduceLT, and_self, List.foldl_cons, List.foldl_nil, Int.cast_ofNat_Int, Int.natCast_add, slots, wkL_nil, wkL_cons, wkB_nil, wkR_nil, wkR_some, wkV_j, wkV_d, wkV_o, frz_d, oK_zs, reduceCtorEq]
      · have hU : upI F O (L.getD k default) = O.set (L.getD k default).1 ((L.getD k default).2 : Int) := if_neg h2
        simp (implicitDefEqProofs := false) (dsimp := false) only [q5, ↓optK_some, ↓rwK_mk_, ↓nthK_H, ↓nthH_zero, ↓nthH_succ, ↓aw_reg, ↓Qseq_n, ↓Qblk_n, ↓ops_nil, ↓ops_cons, ↓eval_tmp, ↓eval_int, ↓put_some, ↓put_none, ↓iK_i, ↓dK_d, ↓binE_i, ↓bi_add, ↓in_i64, ↓ldK_p, ↓faK_p, ↓iaK_o, ↓op_move, ↓op_load, ↓op_bin, ↓op_fa, ↓op_ia, ↓op_store, ↓setRow_mk, ↓row_sz, ↓row_xs, ↓cells_c, ↓vcells_s, ↓one_i, ↓st_e, ↓ty3, ↓fd28_0, ↓fd28_1, ↓sl29, List.getD_cons_zero, List.getD_cons_succ, List.set_cons_zero, List.set_cons_succ, List.map_cons, List.map_nil, List.length_cons, List.length_nil, List.all_cons, List.all_nil, Bool.true_and, Bool.and_self, Nat.reduceAdd, Nat.reduceSub, Nat.reduceMul, Nat.zero_add, Nat.add_zero, Int.toNat_natCast, evK_go, reduceIte, Nat.reduceEqDiff, Nat.reduceLT, and_self, true_and, Int.zero_add, Int.ofNat_lt, Int.natCast_nonneg]
        refine ⟨by omega, k + 1, by omega, by omega, ?_⟩
        refine Wkn.of [] [some 0] ?_
        simp (implicitDefEqProofs := false) (dsimp := false) only [hstep, hU, List.map_set, List.getD_cons_zero, List.set_cons_zero, List.set_cons_succ, Bool.and_self, Nat.reduceAdd, Nat.reduceSub, Nat.reduceMul, List.replicate, evK_go, reduceIte, Nat.reduceEqDiff, Nat.reduceLT, and_self, List.foldl_cons, List.foldl_nil, Int.cast_ofNat_Int, Int.natCast_add, slots, wkL_nil, wkL_cons, wkB_nil, wkR_nil, wkR_some, wkV_j, wkV_d, wkV_o, frz_d, oK_zs, reduceCtorEq]
    · obtain rfl : k = L.length := by omega
      have e1 : List.take m (List.map (I .i64) (List.foldl (upI F) ((List.replicate m 0).set r' (-1)) (List.take L.length L))) = (L.foldl (upI F) ((List.replicate m 0).set r' (-1))).map (I .i64) := by
        rw [List.take_length] at hOl ⊢
        exact List.take_of_length_le (by simp [hOl])
      simp (implicitDefEqProofs := false) (dsimp := false) only [e1, erD_0, eval_nilI, ↓optK_some, ↓rwK_mk_, ↓aw_seq, ↓aw_exit, ↓aw_ret, ↓aw_reg, ↓Qseq_n, ↓Qseq_x, ↓Qblk_x, ↓Qret_r, ↓ops_nil, ↓ops_cons, ↓eval_tmp, ↓put_some, ↓op_move, ↓op_assign, ↓td_d, ↓td_o, ↓ret_2, ↓row_xs, List.getD_cons_zero, List.getD_cons_succ, List.set_cons_zero, List.set_cons_succ, Nat.reduceAdd, Nat.reduceSub, Nat.reduceMul, evK_go, reduceIte, decide_false, Nat.reduceEqDiff, Nat.reduceLT, Nat.lt_irrefl, List.drop_zero]
theorem ups_call (n : Int) (l : List (Int × Int)) (r : Int) (pure : Bool) (σ : St) (dst : Option Tmp) (K : St → Prop) : CallH Try.prog 18 [I .i64 n, .l (l.map lnD), I .i64 r] pure σ dst (.mk : Hid K) = OrH ((l.length < 2 ^ 62) ∧ (pure || D.flat (.t [.l ((upR n l r).map (I .i64)), erD (upE n l r)])) = true ∧ evK (σ.put dst (.d (.t [.l ((upR n l r).map (I .i64)), erD (upE n l r)]))) (.mk : Hid K)) (.mk : Hid (CallH Try.prog 18 [I .i64 n, .l (l.map lnD), I .i64 r] pure σ dst (.mk : Hid K))) := CallH.eq (ups_spec n l r) pure σ dst K
def wayR (n : Int) (l : List (Int × Int)) (a b : Int) : List Nat := if tchk n l = 0 then (if (inB a 0 (n - 1) && inB b 0 (n - 1)) = true then wayL n.toNat (natL l) a.toNat b.toNat else []) else []
def wayE (n : Int) (l : List (Int × Int)) (a b : Int) : Int := if tchk n l = 0 then (if (inB a 0 (n - 1) && inB b 0 (n - 1)) = true then 0 else 1) else tchk n l
theorem cway_spec (n : Int) (l : List (Int × Int)) (a b : Int) (hpre : l.length < 2 ^ 62) : FnD Try.prog 6 [I .i64 n, .l (l.map lnD), I .i64 a, I .i64 b] (.t [.l ((wayR n l a b).map nD), erD (wayE n l a b)]) := by
  refine FnD.go Try.func6 rfl rfl Try.results6 Try.ntmps6 ?_
  simp (implicitDefEqProofs := false) (dsimp := false) only [↓aw_seq, ↓aw_reg, ↓Qseq_n, ↓ops_nil, ↓ops_cons, ↓eval_tmp, ↓eval_nil, ↓eval_func, ↓put_some, ↓op_move, ↓op_assign, ↓op_call, isD_d, ↓fnK_f, ↓call_H, ↓callK_H, ↓allT_nil, ↓allT_cons, ↓td_d, List.getD_cons_zero, List.getD_cons_succ, List.set_cons_zero, List.set_cons_succ, List.cons_append, List.nil_append, List.append_nil, List.map_cons, List.map_nil, List.length_cons, List.length_nil, List.all_cons, List.all_nil, Bool.and_self, Nat.reduceAdd, Nat.reduceSub, Nat.reduceMul, Nat.zero_add, List.replicate, evK_go, reduceIte, Nat.reduceEqDiff, Nat.reduceLT, and_self, Int.zero_add]
  simp (implicitDefEqProofs := false) (dsimp := false) only [tcheck_call, hpre, eval_nilI, ↓er_neq, er_flat, ↓cdK_not, ↓aw_cond, ↓aw_seq, ↓aw_reg, ↓Qseq_n, ↓ops_nil, ↓ops_cons, ↓eval_tmp, ↓put_some, ↓bK_b, ↓op_move, ↓op_assign, ↓op_bin, List.getD_cons_zero, List.getD_cons_succ, List.set_cons_zero, List.set_cons_succ, Bool.true_and, Bool.or_true, Nat.reduceAdd, Nat.reduceSub, Nat.reduceMul, evK_go, reduceIte, Nat.reduceEqDiff, Nat.reduceLT, true_and]
  (repeat refine OrH.l ?_)
  refine cdK_dec (fun hc => ?_) (fun hc => ?_)
  rotate_left
  · have e : wayR n l a b = [] := if_neg hc
    have e2 : wayE n l a b = tchk n l := if_neg hc
    simp (implicitDefEqProofs := false) (dsimp := false) only [e, e2, ↓aw_seq, ↓aw_ret, ↓aw_reg, ↓Qseq_n, ↓Qseq_r, ↓Qret_r, ↓ops_nil, ↓ops_cons, ↓eval_tmp, ↓eval_nil, ↓put_some, ↓op_move, ↓op_assign, ↓td_d, ↓td_nl, ↓ret_2, List.getD_cons_zero, List.getD_cons_succ, List.set_cons_zero, List.set_cons_succ, List.map_nil, Nat.reduceAdd, Nat.reduceSub, Nat.reduceMul, evK_go, reduceIte, Nat.reduceEqDiff, Nat.reduceLT]
  obtain ⟨hk, hT⟩ := tchk_zero hc
  have ok := chk_ok hk
  have h8 := ok.hi
  have hlo := ok.lo
  have e0 := ok.n0
  rw [show wayR n l a b = (if (inB a 0 (n - 1) && inB b 0 (n - 1)) = true then wayL n.toNat (natL l) a.toNat b.toNat else []) from if_pos hc, show wayE n l a b = (if (inB a 0 (n - 1) && inB b 0 (n - 1)) = true then 0 else 1) from if_pos hc]
  obtain ⟨m, rfl⟩ : ∃ m : Nat, n = m := ⟨n.toNat, e0⟩
  simp (implicitDefEqProofs := false) (dsimp := false) only [Int.toNat_natCast] at h8 hlo hT ⊢
  simp (implicitDefEqProofs := false) (dsimp := false) only [all2_call, ↓cdK_not, ↓aw_cond, ↓aw_seq, ↓aw_skip, ↓aw_reg, ↓Qseq_n, ↓ops_nil, ↓ops_cons, ↓eval_tmp, ↓eval_int, ↓eval_func, ↓put_some, ↓bK_b, ↓dK_d, ↓binE_i, ↓bi_sub, ↓in_i64, ↓op_move, ↓op_bin, ↓op_not, ↓op_call, isD_d, ↓fnK_f, ↓call_H, ↓callK_H, ↓allT_nil, ↓allT_cons, ↓allD_nil, ↓allD_cons, ↓td_d, ↓cells_c, ↓one_i, ↓bs_, ↓op_bs, ↓bsL_f, ↓stored_mk, ↓sl_nil, ↓sl_cons, ↓sT_move, ↓sT_bin, ↓sT_un, ↓sT_bs, ↓sT_call, ↓vsz_int, ↓inO_2, ↓fm_nil, ↓fm_cons, ↓ty3, ↓zb3, ↓sl29, List.getD_cons_zero, List.getD_cons_succ, List.set_cons_zero, List.set_cons_succ, List.append_nil, List.map_cons, List.map_nil, List.length_cons, List.length_nil, List.all_cons, List.all_nil, Bool.true_and, Bool.and_self, Bool.true_or, Bool.or_false, Nat.reduceAdd, Nat.reduceSub, Nat.reduceMul, Nat.zero_add, evK_go, reduceIte, Nat.reduceEqDiff, Nat.reduceLT, and_self, true_and, Int.zero_add]
  refine ⟨by decide, by omega, ?_⟩
  (repeat refine OrH.l ?_)
  refine cdK_split (fun hb => ?_) (fun hb => ?_)
  rotate_left
  · rw [if_neg (by rw [hb]; decide), if_neg (by rw [hb]; decide)]
    simp (implicitDefEqProofs := false) (dsimp := false) only [nc43, erD_1, ↓aw_seq, ↓aw_ret, ↓aw_reg, ↓Qseq_n, ↓Qseq_r, ↓Qret_r, ↓ops_nil, ↓ops_cons, ↓eval_tmp, ↓eval_int, ↓eval_nil, ↓put_some, ↓vK_c, ↓op_assign, ↓op_iface, ↓td_d, ↓td_nl, ↓ret_2, ↓nc43, List.getD_cons_zero, List.getD_cons_succ, List.set_cons_zero, List.set_cons_succ, List.map_nil, Bool.and_self, Nat.reduceAdd, Nat.reduceSub, Nat.reduceMul, evK_go, reduceIte, Nat.reduceEqDiff, Nat.reduceLT, and_self]
    skip
  rw [if_pos hb, if_pos hb]
  rw [Bool.and_eq_true] at hb
  obtain ⟨ha1, ha2⟩ := inW_iff.1 hb.1
  obtain ⟨hb1, hb2⟩ := inW_iff.1 hb.2
  have hu1 : upE m l b = 0 := by unfold upE; rw [if_pos hc, if_pos hb.2]
  have hu2 : upR m l b = upL m (natL l) b.toNat := by unfold upR; rw [if_pos hc, if_pos hb.2]; rfl
  obtain ⟨a', rfl⟩ : ∃ a' : Nat, a = a' := ⟨a.toNat, by omega⟩
  obtain ⟨b', rfl⟩ : ∃ b' : Nat, b = b' := ⟨b.toNat, by omega⟩
  simp (implicitDefEqProofs := false) (dsimp := false) only [Int.toNat_natCast] at hu2 ⊢
  obtain ⟨w1, w2, w3, w4, w5⟩ := wayF_spec (by omega) hT (show a' < m by omega) (show b' < m by omega)
  have hUl : (upL m (natL l) b').length = m := by unfold upL; rw [upL_len]; simp
  have hDm : dT m (natL l) b' a' < m := (dT_far (by omega) hT (show b' < m by omega) (show a' < m by omega)).2.2
  have hW : wayL m (natL l) a' b' = (List.range (dT m (natL l) b' a' + 1)).map (wayF m (natL l) b' a') := rfl
  have hw0 : wayF m (natL l) b' a' 0 = a' := rfl
  simp (implicitDefEqProofs := false) (dsimp := false) only [ups_call, hpre, hu1, hu2, eval_nilI, ↓er_neq, ↓cdK_false, ↓nthK_H, ↓nthH_zero, ↓nthH_succ, ↓aw_cond, ↓aw_seq, ↓aw_block, ↓aw_skip, ↓aw_loop, ↓aw_reg, ↓Qseq_n, ↓ops_nil, ↓ops_cons, ↓eval_tmp, ↓eval_nil, ↓eval_func, ↓put_some, ↓bK_b, ↓tK_t, ↓op_move, ↓op_assign, ↓op_bin, ↓op_extract, ↓op_call, isD_d, ↓fnK_f, ↓call_H, ↓callK_H, ↓allT_nil, ↓allT_cons, ↓td_d, List.getD_cons_zero, List.getD_cons_succ, List.set_cons_zero, List.set_cons_succ, List.append_nil, List.all_cons, List.all_nil, Bool.true_and, Bool.and_self, Bool.true_or, Nat.reduceAdd, Nat.reduceSub, Nat.reduceMul, evK_go, reduceIte, decide_true, Bool.not_true, Nat.reduceEqDiff, Nat.reduceLT, and_self, true_and]
  (repeat refine OrH.l ?_)
  rw [hW]
  clear hW hu1 hu2 hb hc hk ok hT w2 w3
  generalize upL m (natL l) b' = F at *
  generalize dT m (natL l) b' a' = D at *
  generalize wayF m (natL l) b' a' = w at *
  have hv : ∀ t, t ≤ D → F.getD (w t) default = if t + 1 ≤ D then (w (t + 1) : Int) else -1 := fun t ht => by
    by_cases e : t + 1 ≤ D
    · rw [if_pos e]; exact w4 t (by omega)
    · rw [if_neg e]
      obtain rfl : t = D := by omega
      exact w5
  refine loopW (fun t : Nat => { tm := slots 51 [(11, .d (.l (F.map (I .i64)))), (13, .o 0 0 t), (14, .d (I .i64 (if t ≤ D then (w t : Int) else -1)))], bx := [], rw := [some ⟨1, ((List.range t).map w).map nD⟩] })
    (fun t => t ≤ D + 1) (fun t => D + 1 - t) 0 (by simp) ?_ ?_
  · refine Wkn.of [] [none] ?_
    simp (implicitDefEqProofs := false) (dsimp := false) only [Nat.zero_le, if_true, hw0, List.range_zero, ↓row_xs, List.set_cons_zero, List.set_cons_succ, List.map_nil, Bool.and_self, Nat.reduceAdd, Nat.reduceSub, Nat.reduceMul, List.replicate, evK_go, reduceIte, Nat.reduceEqDiff, Nat.reduceLT, and_self, List.foldl_cons, List.foldl_nil, slots, wkL_nil, wkL_cons, wkB_nil, wkR_nil, wkR_new, wkV_j, wkV_d, nlK_nl, wkV_o, frz_d, oK_zn, reduceCtorEq]
  · intro t ht
    simp (implicitDefEqProofs := false) (dsimp := false) only [slots, ↓aw_cond, ↓aw_seq, ↓aw_reg, ↓Qseq_n, ↓ops_nil, ↓ops_cons, ↓eval_tmp, ↓eval_int, ↓put_some, ↓bK_b, ↓binE_i, ↓bi_geq, ↓op_move, ↓op_bin, List.getD_cons_zero, List.getD_cons_succ, List.set_cons_zero, List.set_cons_succ, Nat.reduceAdd, Nat.reduceSub, Nat.reduceMul, List.replicate, evK_go, reduceIte, Nat.reduceEqDiff, Nat.reduceLT, List.foldl_cons, List.foldl_nil]
    by_cases htD : t ≤ D
    · have hwt := w1 t htD
      have hvt := hv t htD
      have q1 : w t < F.length := by omega
      have q2 : decide ((0 : Int) ≤ (w t : Int)) = true := decide_eq_true (by omega)
      have hs : (List.range (t + 1)).map w = (List.range t).map w ++ [w t] := by rw [List.range_succ, List.map_append]; rfl
      rw [if_pos htD]
      simp (implicitDefEqProofs := false) (dsimp := false) only [q1, ↓cdK_true, ↓optK_some, ↓rwK_mk_, ↓atK_H, ↓atH_map, ↓aw_seq, ↓aw_block, ↓aw_skip, ↓aw_reg, ↓Qseq_n, ↓Qblk_n, ↓ops_nil, ↓ops_cons, ↓eval_tmp, ↓put_some, ↓iK_i, ↓dK_d, ↓ldK_q, ↓iaK_l, ↓op_move, ↓op_assign, ↓op_load, ↓op_ia, ↓op_append, ↓allD_nil, ↓allD_cons, ↓app_mk, ↓row_sz, ↓row_xs, kill_d, kill_j, kill_o, ↓cells_c, ↓one_i, ↓ap_, ↓ap_o, ↓src_l, ↓bs_, ↓op_bs, ↓bsL_f, ↓stored_mk, ↓sl_nil, ↓sl_cons, ↓sT_move, ↓sT_assign, ↓sT_bs, ↓sT_call, ↓vsz_int, ↓inO_1, ↓fm_nil, ↓fm_cons, ↓hd_cons, ↓ty3, ↓zb3, ↓sl29, List.getD_cons_zero, List.getD_cons_succ, List.set_cons_zero, List.set_cons_succ, List.map_cons, List.map_nil, List.length_cons, List.length_nil, List.length_map, List.all_cons, List.all_nil, Bool.true_and, Bool.and_self, Bool.or_false, Nat.reduceAdd, Nat.reduceSub, Nat.reduceMul, Nat.zero_add, Int.toNat_natCast, evK_go, reduceIte, decide_true, Nat.reduceEqDiff, Nat.reduceLT, and_self, true_and, Int.zero_add, List.drop_zero, Int.natCast_nonneg]
      refine ⟨by decide, ⟨fun _ => trivial, by simp, by omega, by omega⟩, t + 1, by omega, by omega, ?_⟩
      refine Wkn.of [] [some 0] ?_
      simp (implicitDefEqProofs := false) (dsimp := false) only [hs, hvt, List.map_append, nD, List.getD_cons_zero, List.set_cons_zero, List.set_cons_succ, List.map_cons, List.map_nil, Bool.and_self, Nat.reduceAdd, Nat.reduceSub, Nat.reduceMul, List.replicate, evK_go, reduceIte, Nat.reduceEqDiff, Nat.reduceLT, and_self, List.foldl_cons, List.foldl_nil, slots, wkL_nil, wkL_cons, wkB_nil, wkR_nil, wkR_some, wkV_j, wkV_d, wkV_o, frz_d, oK_zs, reduceCtorEq]
    · rw [if_neg htD]
      have q2 : decide ((0 : Int) ≤ -1) = false := by decide
      obtain rfl : t = D + 1 := by omega
      have e1 : List.take (D + 1) (List.map nD (List.map w (List.range (D + 1)))) = List.map nD (List.map w (List.range (D + 1))) := List.take_of_length_le (by simp)
      simp (implicitDefEqProofs := false) (dsimp := false) only [q2, e1, erD_0, eval_nilI, ↓cdK_false, ↓optK_some, ↓rwK_mk_, ↓aw_seq, ↓aw_exit, ↓aw_ret, ↓aw_reg, ↓Qseq_n, ↓Qseq_x, ↓Qblk_x, ↓Qret_r, ↓ops_nil, ↓ops_cons, ↓eval_tmp, ↓put_some, ↓op_move, ↓op_assign, ↓td_d, ↓td_o, ↓ret_2, ↓row_xs, List.getD_cons_zero, List.getD_cons_succ, List.set_cons_zero, List.set_cons_succ, Nat.reduceAdd, Nat.reduceSub, Nat.reduceMul, evK_go, reduceIte, Nat.reduceEqDiff, Nat.reduceLT, List.drop_zero]
theorem cway_call (n : Int) (l : List (Int × Int)) (a b : Int) (pure : Bool) (σ : St) (dst : Option Tmp) (K : St → Prop) : CallH Try.prog 6 [I .i64 n, .l (l.map lnD), I .i64 a, I .i64 b] pure σ dst (.mk : Hid K) = OrH ((l.length < 2 ^ 62) ∧ (pure || D.flat (.t [.l ((wayR n l a b).map nD), erD (wayE n l a b)])) = true ∧ evK (σ.put dst (.d (.t [.l ((wayR n l a b).map nD), erD (wayE n l a b)]))) (.mk : Hid K)) (.mk : Hid (CallH Try.prog 6 [I .i64 n, .l (l.map lnD), I .i64 a, I .i64 b] pure σ dst (.mk : Hid K))) := CallH.eq (cway_spec n l a b) pure σ dst K
end Go.Proofs

namespace Go.Proofs
open Go.Aw
set_option linter.unusedSimpArgs false
set_option maxRecDepth 10000
theorem inT_spec (n low high : Int) : FnD Try.prog 8 [I .i64 n, I .i64 low, I .i64 high] (Bo (inB n low high)) := by
  refine FnD.go Try.func8 rfl rfl Try.results8 Try.ntmps8 ?_
  simp (implicitDefEqProofs := false) (dsimp := false) only [↓gdK_t, ↓gval_mk, ↓gvL_zero, ↓gvL_succ, ↓aw_seq, ↓aw_reg, ↓Qseq_n, ↓ops_nil, ↓ops_cons, ↓ops_guard, ↓eval_tmp, ↓eval_bool, ↓put_some, ↓binE_i, ↓bi_geq, ↓op_move, ↓op_assign, ↓op_bin, ↓st_tm, List.getD_cons_zero, List.getD_cons_succ, List.set_cons_zero, List.set_cons_succ, List.cons_append, List.nil_append, List.map_cons, List.map_nil, List.length_cons, List.length_nil, Nat.reduceAdd, Nat.reduceSub, Nat.reduceMul, Nat.zero_add, List.replicate, evK_go, reduceIte, Nat.reduceEqDiff, Nat.reduceLT, Int.zero_add]
  refine cdK_dec (fun h => ?_) (fun h => ?_) <;> simp (implicitDefEqProofs := false) (dsimp := false) only [h, inB, ↓cdK_true, ↓cdK_false, ↓gdK_t, ↓gval_mk, ↓gvL_zero, ↓gvL_succ, ↓aw_ret, ↓Qseq_n, ↓Qret_r, ↓ops_nil, ↓ops_cons, ↓ops_guard, ↓eval_tmp, ↓eval_bool, ↓put_some, ↓bK_b, ↓binE_i, ↓bi_leq, ↓op_move, ↓op_assign, ↓op_pick, ↓op_bin, ↓td_d, ↓ret_1, ↓st_tm, List.getD_cons_zero, List.getD_cons_succ, List.set_cons_zero, List.set_cons_succ, Bool.true_and, Bool.false_and, Nat.reduceAdd, Nat.reduceSub, Nat.reduceMul, evK_go, reduceIte, decide_true, decide_false, Nat.reduceEqDiff, Nat.reduceLT, true_and]
theorem inT_call (n low high : Int) (pure : Bool) (σ : St) (dst : Option Tmp) (K : St → Prop) : CallH Try.prog 8 [I .i64 n, I .i64 low, I .i64 high] pure σ dst (.mk : Hid K) = OrH ((pure || D.flat (Bo (inB n low high))) = true ∧ evK (σ.put dst (.d (Bo (inB n low high)))) (.mk : Hid K)) (.mk : Hid (CallH Try.prog 8 [I .i64 n, I .i64 low, I .i64 high] pure σ dst (.mk : Hid K))) := CallH.eq0 (inT_spec n low high) pure σ dst K
theorem tlf_spec  : FnD Try.prog 5 [I .i64 2, .l [.s [I .i64 0, I .i64 1]]] (.t [I .i64 1, erD 0]) := by
  have h := tlong_spec 2 [(0, 1)] (by decide)
  rw [show longI 2 [(0, 1)] = 1 by decide +kernel, show tchk 2 [(0, 1)] = 0 by decide +kernel] at h
  exact h
theorem tlf_call  (pure : Bool) (σ : St) (dst : Option Tmp) (K : St → Prop) : CallH Try.prog 5 [I .i64 2, .l [.s [I .i64 0, I .i64 1]]] pure σ dst (.mk : Hid K) = OrH ((pure || D.flat (.t [I .i64 1, erD 0])) = true ∧ evK (σ.put dst (.d (.t [I .i64 1, erD 0]))) (.mk : Hid K)) (.mk : Hid (CallH Try.prog 5 [I .i64 2, .l [.s [I .i64 0, I .i64 1]]] pure σ dst (.mk : Hid K))) := CallH.eq0 (tlf_spec ) pure σ dst K
theorem atH_zero (a : D) (l : List D) (k : D → Prop) : atH (a :: l) 0 (.mk : Hid k) = evK a (.mk : Hid k) := by
  simp (implicitDefEqProofs := false) (dsimp := false) only [atH, atK, evK]
  simp
theorem atH_one (a b : D) (l : List D) (k : D → Prop) : atH (a :: b :: l) 1 (.mk : Hid k) = evK b (.mk : Hid k) := by
  simp (implicitDefEqProofs := false) (dsimp := false) only [atH, atK, evK]
  simp
/-- What the law asks of the middle. -/
structure MidW (n : Int) (l : List (Int × Int)) (a b : Int) : Prop where
  len : (wayR n l a b).length ≤ (longI n l).toNat + 1 ∧ 0 < (wayR n l a b).length
  long : 0 ≤ longI n l ∧ longI n l < 8
  mid : (longI n l).toNat < (wayR n l a b).length → ∃ k : Nat, midD n l = k ∧ k < (wayR n l a b).length ∧ (midR n l = [(wayR n l a b).getD k default] ∨ (0 < k ∧ (midR n l = [(wayR n l a b).getD k default, (wayR n l a b).getD (k - 1) default] ∨ midR n l = [(wayR n l a b).getD (k - 1) default, (wayR n l a b).getD k default])))
theorem mid_w {n : Int} {l : List (Int × Int)} {a b : Int} (hc : tchk n l = 0) (hw : wayE n l a b = 0) : MidW n l a b := by
  obtain ⟨hk, hT⟩ := tchk_zero hc
  have ok := chk_ok hk
  have h8 := ok.hi
  have hlo := ok.lo
  have e0 := ok.n0
  have hab : (inB a 0 (n - 1) && inB b 0 (n - 1)) = true := by
    unfold wayE at hw
    rw [if_pos hc] at hw
    split at hw
    · assumption
    · cases hw
  have hR : wayR n l a b = wayL n.toNat (natL l) a.toNat b.toNat := by unfold wayR; rw [if_pos hc, if_pos hab]
  have hL : longI n l = maxI (eccL n.toNat (natL l)) := if_pos hc
  have hM : midR n l = midL n.toNat (natL l) := if_pos hc
  have hD : midD n l = minI (eccL n.toNat (natL l)) := if_pos hc
  rw [Bool.and_eq_true] at hab
  obtain ⟨ha1, ha2⟩ := inW_iff.1 hab.1
  obtain ⟨hb1, hb2⟩ := inW_iff.1 hab.2
  have ha : a.toNat < n.toNat := by omega
  have hb : b.toNat < n.toNat := by omega
  obtain ⟨D, d1, d2, d3⟩ := long_spec (by omega) hT (by omega)
  have hlen : (wayR n l a b).length = dT n.toNat (natL l) b.toNat a.toNat + 1 := by rw [hR, wayL_len]
  have hle := d3 _ _ hb ha
  have hg : ∀ i, i < dT n.toNat (natL l) b.toNat a.toNat + 1 → (wayR n l a b).getD i default = wayF n.toNat (natL l) b.toNat a.toNat i := fun i hi => by rw [hR]; exact range_getD _ hi
  have hLD : (longI n l).toNat = D := by rw [hL, d1, Int.toNat_natCast]
  refine ⟨by omega, by rw [hL, d1]; omega, fun hlt => ?_⟩
  have hDD : dT n.toNat (natL l) b.toNat a.toNat = D := by omega
  obtain ⟨m1, m2⟩ := mid_law (by omega) hT ha hb d1 hDD
  refine ⟨(D + 1) / 2, by rw [hD, m1], by omega, ?_⟩
  rw [hM]
  rcases m2 with ⟨q1, q2⟩ | ⟨q1, q2⟩
  · left
    rw [hg _ (by omega)]; exact q2
  · right
    rw [hg _ (by omega), hg _ (by omega)]
    exact ⟨by omega, q2⟩
set_option maxHeartbeats 4000000 in
theorem lTopMidst_spec (n : Int) (l : List (Int × Int)) (a b : Int) (_hn : -9223372036854775808 ≤ n ∧ n ≤ 9223372036854775807) (hl : l.length < 2 ^ 43) (_ha : -9223372036854775808 ≤ a ∧ a ≤ 9223372036854775807) (_hb : -9223372036854775808 ≤ b ∧ b ≤ 9223372036854775807) : FnD Try.prog 3 [I .i64 n, .l (l.map lnD), I .i64 a, I .i64 b] (Bo true) := by
  have hl62 : l.length < 2 ^ 62 := by omega
  have h00 : decide ((0 : Int) = 0) = true := by decide
  have h11 : decide ((1 : Int) = 1) = true := by decide
  refine FnD.go Try.func3 rfl rfl Try.results3 Try.ntmps3 ?_
  simp (implicitDefEqProofs := false) (dsimp := false) only [↓aw_seq, ↓aw_reg, ↓Qseq_n, ↓ops_nil, ↓ops_cons, ↓eval_tmp, ↓eval_bool, ↓eval_func, ↓put_some, ↓op_move, ↓op_assign, ↓op_call, isD_d, ↓fnK_f, ↓call_H, ↓callK_H, ↓allT_nil, ↓allT_cons, ↓td_d, List.getD_cons_zero, List.getD_cons_succ, List.set_cons_zero, List.set_cons_succ, List.cons_append, List.nil_append, List.append_nil, List.map_cons, List.map_nil, List.length_cons, List.length_nil, List.all_cons, List.all_nil, Bool.and_self, Nat.reduceAdd, Nat.reduceSub, Nat.reduceMul, Nat.zero_add, List.replicate, evK_go, reduceIte, Nat.reduceEqDiff, Nat.reduceLT, and_self, Int.zero_add]
  simp (implicitDefEqProofs := false) (dsimp := false) only [tlong_call, tlf_call, hl62, eval_nilI, ↓er_neq, ↓cdK_false, ↓cdK_not, ↓gdK_f, ↓gval_mk, ↓gvL_zero, ↓gvL_succ, ↓nthK_H, ↓nthH_zero, ↓nthH_succ, ↓aw_cond, ↓aw_seq, ↓aw_skip, ↓aw_reg, ↓Qseq_n, ↓ops_nil, ↓ops_cons, ↓ops_guard, ↓eval_tmp, ↓eval_int, ↓eval_func, ↓put_some, ↓bK_b, ↓dK_d, ↓tK_t, ↓binE_i, ↓bi_neq, ↓op_move, ↓op_assign, ↓op_pick, ↓op_bin, ↓op_extract, ↓op_build, ↓op_call, isD_d, ↓fnK_f, ↓call_H, ↓callK_H, ↓allT_nil, ↓allT_cons, ↓allD_nil, ↓allD_cons, ↓td_d, ↓st_tm, ↓cells_c, ↓cells_s, ↓one_i, ↓bs_, ↓op_bs, ↓bsL_f, ↓stored_mk, ↓sl_nil, ↓sl_cons, ↓sT_move, ↓sT_assign, ↓sT_extract, ↓sT_build, ↓sT_bs, ↓sT_call, ↓vsz_agg, ↓inO_1, ↓fm_nil, ↓fm_cons, ↓sl22, ↓ty28, ↓zb28, ↓bd28, List.getD_cons_zero, List.getD_cons_succ, List.set_cons_zero, List.set_cons_succ, List.cons_append, List.nil_append, List.append_nil, List.map_cons, List.map_nil, List.length_cons, List.length_nil, List.all_cons, List.all_nil, Bool.true_and, Bool.and_self, Bool.true_or, Bool.or_false, Nat.reduceAdd, Nat.reduceSub, Nat.reduceMul, Nat.zero_add, evK_go, reduceIte, decide_true, Bool.not_true, Nat.reduceEqDiff, Nat.reduceLT, and_self, true_and, Int.zero_add]
  (repeat refine OrH.l ?_)
  refine ⟨⟨rfl, by decide⟩, ?_⟩
  (repeat refine OrH.l ?_)
  refine cdK_dec (fun hc => ?_) (fun hc => ?_)
  rotate_left
  · have e : longI n l = 0 := if_neg hc
    simp (implicitDefEqProofs := false) (dsimp := false) only [e, ↓aw_seq, ↓aw_ret, ↓aw_reg, ↓Qseq_n, ↓Qseq_r, ↓Qret_r, ↓ops_nil, ↓ops_cons, ↓eval_tmp, ↓eval_int, ↓put_some, ↓binE_i, ↓bi_eql, ↓op_move, ↓op_assign, ↓op_bin, ↓td_d, ↓ret_1, List.getD_cons_zero, List.getD_cons_succ, List.set_cons_zero, List.set_cons_succ, Nat.reduceAdd, Nat.reduceSub, Nat.reduceMul, evK_go, reduceIte, decide_true, Nat.reduceEqDiff, Nat.reduceLT]
  simp (implicitDefEqProofs := false) (dsimp := false) only [cway_call, hl62, eval_nilI, ↓er_neq, ↓cdK_not, ↓nthK_H, ↓nthH_zero, ↓nthH_succ, ↓aw_cond, ↓aw_seq, ↓aw_skip, ↓aw_reg, ↓Qseq_n, ↓ops_nil, ↓ops_cons, ↓eval_tmp, ↓eval_func, ↓put_some, ↓bK_b, ↓tK_t, ↓op_move, ↓op_assign, ↓op_bin, ↓op_extract, ↓op_call, isD_d, ↓fnK_f, ↓call_H, ↓callK_H, ↓allT_nil, ↓allT_cons, ↓td_d, List.getD_cons_zero, List.getD_cons_succ, List.set_cons_zero, List.set_cons_succ, List.append_nil, List.all_cons, List.all_nil, Bool.true_and, Bool.and_self, Bool.true_or, Nat.reduceAdd, Nat.reduceSub, Nat.reduceMul, evK_go, reduceIte, Nat.reduceEqDiff, Nat.reduceLT, and_self, true_and]
  (repeat refine OrH.l ?_)
  refine cdK_dec (fun hw => ?_) (fun hw => ?_)
  rotate_left
  · have e : wayR n l a b = [] := by
      unfold wayE at hw
      rw [if_pos hc] at hw
      unfold wayR
      rw [if_pos hc]
      split at hw
      · exact absurd rfl hw
      · rename_i h; exact if_neg h
    simp (implicitDefEqProofs := false) (dsimp := false) only [e, hw, ↓aw_seq, ↓aw_ret, ↓aw_reg, ↓Qseq_n, ↓Qseq_r, ↓Qret_r, ↓ops_nil, ↓ops_cons, ↓eval_tmp, ↓eval_int, ↓put_some, ↓lenK_l, ↓binE_i, ↓bi_eql, ↓op_move, ↓op_assign, ↓op_bin, ↓op_len, ↓td_d, ↓ret_1, ↓sl29, List.getD_cons_zero, List.getD_cons_succ, List.set_cons_zero, List.set_cons_succ, List.map_nil, List.length_nil, Nat.reduceAdd, Nat.reduceSub, Nat.reduceMul, evK_go, reduceIte, decide_true, decide_false, Bool.not_false, Nat.reduceEqDiff, Nat.reduceLT, Int.cast_ofNat_Int]
    skip
  obtain ⟨⟨k1, k2⟩, k3, k4⟩ := mid_w hc hw
  obtain ⟨D, hD⟩ : ∃ D : Nat, longI n l = D := ⟨(longI n l).toNat, by omega⟩
  rw [hD] at k1 k3 k4
  rw [Int.toNat_natCast] at k1 k4
  rw [hD]
  generalize wayR n l a b = W at *
  have q1 : decide ((D : Int) + 1 < (W.length : Int)) = false := decide_eq_false (by omega)
  have q2 : decide ((W.length : Int) = 0) = false := decide_eq_false (by omega)
  simp (implicitDefEqProofs := false) (dsimp := false) only [q1, q2, ↓cdK_false, ↓gdK_f, ↓gval_mk, ↓gvL_zero, ↓gvL_succ, ↓aw_cond, ↓aw_seq, ↓aw_skip, ↓aw_reg, ↓Qseq_n, ↓ops_nil, ↓ops_cons, ↓ops_guard, ↓eval_tmp, ↓eval_int, ↓put_some, ↓bK_b, ↓lenK_l, ↓binE_i, ↓bi_add, ↓bi_eql, ↓bi_leq, ↓bi_gtr, ↓in_i64, ↓op_move, ↓op_pick, ↓op_bin, ↓op_len, ↓st_tm, ↓sl29, List.getD_cons_zero, List.getD_cons_succ, List.set_cons_zero, List.set_cons_succ, List.length_map, Nat.reduceAdd, Nat.reduceSub, Nat.reduceMul, evK_go, reduceIte, Nat.reduceEqDiff, Nat.reduceLT, Int.ofNat_le]
  refine ⟨by omega, cdK_dec (fun h1 => ?_) (fun h1 => ?_)⟩
  · simp (implicitDefEqProofs := false) (dsimp := false) only [↓aw_seq, ↓aw_ret, ↓aw_reg, ↓Qseq_n, ↓Qseq_r, ↓Qret_r, ↓ops_nil, ↓ops_cons, ↓eval_tmp, ↓eval_bool, ↓put_some, ↓op_assign, ↓td_d, ↓ret_1, List.getD_cons_zero, List.getD_cons_succ, List.set_cons_zero, List.set_cons_succ, Nat.reduceAdd, Nat.reduceSub, Nat.reduceMul, evK_go, reduceIte, Nat.reduceEqDiff, Nat.reduceLT]
    skip
  obtain ⟨k, e1, e2, e3⟩ := k4 (by omega)
  have q3 : inB (k : Int) 0 ((W.length : Int) - 1) = true := inW_iff.2 ⟨by omega, by omega⟩
  have h10 : decide ((1 : Int) = 0) = false := by decide
  have h20 : decide ((2 : Int) = 0) = false := by decide
  have h21 : decide ((2 : Int) = 1) = false := by decide
  have h22 : decide ((2 : Int) = 2) = true := by decide
  have z0 : (0 : Int) ≤ 0 := Int.le_refl _
  have z1 : (0 : Int) ≤ 1 := by decide
  have t1 : Int.toNat 1 = 1 := rfl
  rcases e3 with e3 | ⟨hk0, e3⟩
  · simp (implicitDefEqProofs := false) (dsimp := false) only [tmid_call, hl62, hc, e1, e3, inT_call, q3, h10, nD, e2, z0, eval_nilI, ↓er_neq, ↓cdK_true, ↓cdK_false, ↓gdK_f, ↓gval_mk, ↓gvL_zero, ↓gvL_succ, ↓atK_H, ↓atH_map, ↓nthK_H, ↓nthH_zero, ↓nthH_succ, ↓aw_cond, ↓aw_seq, ↓aw_skip, ↓aw_reg, ↓aw_draw, ↓Qseq_n, ↓ops_nil, ↓ops_cons, ↓ops_guard, ↓eval_tmp, ↓eval_int, ↓eval_func, ↓put_some, ↓bK_b, ↓iK_i, ↓lenK_l, ↓ev_move, ↓ev_load, ↓ev_ia, ↓tK_t, ↓binE_i, ↓bi_sub, ↓bi_eql, ↓in_i64, ↓ldK_q, ↓iaK_l, ↓op_move, ↓op_assign, ↓op_pick, ↓op_bin, ↓op_not, ↓op_extract, ↓op_len, ↓op_call, isD_d, ↓fnK_f, ↓call_H, ↓callK_H, ↓allT_nil, ↓allT_cons, ↓td_d, ↓draw_H, ↓h_cons, ↓ldH_n, ↓q_move, ↓q_load, ↓q_ia, ↓il_move, ↓il_load, ↓il_ia, ↓st_tm, ↓cells_c, ↓hd_cons, ↓ty3, ↓sl29, List.getD_cons_zero, List.getD_cons_succ, List.set_cons_zero, List.set_cons_succ, List.append_nil, List.map_cons, List.map_nil, List.length_cons, List.length_nil, List.length_map, List.all_cons, List.all_nil, Bool.true_and, Bool.and_self, Bool.true_or, Nat.reduceAdd, Nat.reduceSub, Nat.reduceMul, Nat.zero_add, Int.toNat_natCast, Int.toNat_zero, evK_go, reduceIte, decide_true, Bool.not_true, Nat.reduceEqDiff, Nat.reduceLT, and_self, true_and, Int.zero_add, Int.cast_ofNat_Int, Int.natCast_nonneg]
    (repeat refine OrH.l ?_)
    refine ⟨by omega, ?_⟩
    (repeat refine OrH.l ?_)
    refine ⟨DrawH.of follows_mixed (by kernel_rfl), ?_⟩
    simp (implicitDefEqProofs := false) (dsimp := false) only [↓atH_zero, ↓aw_ret, ↓Qseq_n, ↓Qseq_r, ↓Qret_r, ↓eval_tmp, ↓put_some, ↓ev_assign, ↓ev_load, ↓ev_bin, ↓binE_i, ↓bi_eql, ↓ldK_q, ↓td_d, ↓ret_1, ↓h_nil, ↓h_cons, ↓ldH_n, ↓q_assign, ↓q_load, ↓q_bin, ↓il_assign, ↓il_load, ↓il_bin, ↓cells_c, ↓hd_cons, ↓ty3, List.getD_cons_zero, List.getD_cons_succ, List.set_cons_zero, List.set_cons_succ, List.length_cons, List.length_nil, Bool.and_self, Nat.reduceAdd, Nat.reduceSub, Nat.reduceMul, Nat.zero_add, evK_go, reduceIte, decide_true, Nat.reduceEqDiff, Nat.reduceLT, and_self, Int.zero_add]
    skip
  have q4 : decide ((0 : Int) < (k : Int)) = true := decide_eq_true (by omega)
  have q5 : ((k : Int) - 1).toNat = k - 1 := by omega
  have q6 : k - 1 < W.length := by omega
  have q7 : (0 : Int) ≤ (k : Int) - 1 := by omega
  obtain ⟨x, hx⟩ : ∃ x, W.getD k default = x := ⟨_, rfl⟩
  obtain ⟨y, hy⟩ : ∃ y, W.getD (k - 1) default = y := ⟨_, rfl⟩
  rw [hx, hy] at e3
  rcases e3 with e3 | e3
  · have dA := decide_eq_true hx
    have dB := decide_eq_true hy
    simp (implicitDefEqProofs := false) (dsimp := false) only [tmid_call, hl62, hc, e1, e3, inT_call, q3, q4, h20, h21, nD, e2, q5, q6, q7, z0, z1, t1, dA, dB, ↓atH_zero, ↓atH_one, eval_nilI, ↓er_neq, ↓cdK_true, ↓cdK_false, ↓gdK_junk, ↓gdK_t, ↓gdK_f, ↓gval_mk, ↓gvL_zero, ↓gvL_succ, ↓atK_H, ↓atH_map, ↓nthK_H, ↓nthH_zero, ↓nthH_succ, ↓aw_cond, ↓aw_seq, ↓aw_ret, ↓aw_skip, ↓aw_reg, ↓aw_draw, ↓Qseq_n, ↓Qret_r, ↓ops_nil, ↓ops_cons, ↓ops_guard, ↓eval_tmp, ↓eval_int, ↓eval_bool, ↓eval_func, ↓put_some, ↓bK_b, ↓iK_i, ↓lenK_l, ↓ev_move, ↓ev_assign, ↓ev_pick, ↓ev_load, ↓ev_bin, ↓ev_ia, ↓tK_t, ↓ev_len, ↓binE_i, ↓bi_sub, ↓bi_eql, ↓bi_gtr, ↓in_i64, ↓ldK_q, ↓iaK_l, ↓op_move, ↓op_assign, ↓op_pick, ↓op_bin, ↓op_not, ↓op_extract, ↓op_len, ↓op_call, isD_d, ↓fnK_f, ↓call_H, ↓callK_H, ↓allT_nil, ↓allT_cons, ↓td_d, ↓ret_1, ↓draw_H, ↓h_nil, ↓h_cons, ↓ldH_n, ↓ldH_g, ↓q_bi, ↓q_move, ↓q_assign, ↓q_pick, ↓q_load, ↓q_bin, ↓q_ia, ↓il_move, ↓il_assign, ↓il_pick, ↓il_load, ↓il_bin, ↓il_ia, ↓il_len, ↓st_tm, ↓cells_c, ↓hd_cons, ↓ty3, ↓sl29, List.getD_cons_zero, List.getD_cons_succ, List.set_cons_zero, List.set_cons_succ, List.append_nil, List.map_cons, List.map_nil, List.length_cons, List.length_nil, List.length_map, List.all_cons, List.all_nil, Bool.and_true, Bool.true_and, Bool.and_self, Bool.true_or, Nat.reduceAdd, Nat.reduceSub, Nat.reduceMul, Nat.zero_add, Int.toNat_natCast, Int.toNat_zero, evK_go, reduceIte, decide_true, Bool.not_true, Nat.reduceEqDiff, Nat.reduceLT, and_self, true_and, and_true, Int.zero_add, Int.cast_ofNat_Int, Int.natCast_nonneg, Int.natCast_inj]
    (repeat refine OrH.l ?_)
    refine ⟨by omega, ?_⟩
    (repeat refine OrH.l ?_)
    refine ⟨DrawH.of follows_mixed (by kernel_rfl), ?_⟩
    omega
  · by_cases hxy : x = y
    · have dA := decide_eq_true (hx.trans hxy)
      have dB := decide_eq_true (hy.trans hxy.symm)
      simp (implicitDefEqProofs := false) (dsimp := false) only [tmid_call, hl62, hc, e1, e3, inT_call, q3, q4, h20, h21, nD, e2, q5, q6, q7, z0, z1, t1, dA, dB, ↓atH_zero, ↓atH_one, eval_nilI, ↓er_neq, ↓cdK_true, ↓cdK_false, ↓gdK_junk, ↓gdK_t, ↓gdK_f, ↓gval_mk, ↓gvL_zero, ↓gvL_succ, ↓atK_H, ↓atH_map, ↓nthK_H, ↓nthH_zero, ↓nthH_succ, ↓aw_cond, ↓aw_seq, ↓aw_ret, ↓aw_skip, ↓aw_reg, ↓aw_draw, ↓Qseq_n, ↓Qret_r, ↓ops_nil, ↓ops_cons, ↓ops_guard, ↓eval_tmp, ↓eval_int, ↓eval_bool, ↓eval_func, ↓put_some, ↓bK_b, ↓iK_i, ↓lenK_l, ↓ev_move, ↓ev_assign, ↓ev_pick, ↓ev_load, ↓ev_bin, ↓ev_ia, ↓tK_t, ↓ev_len, ↓binE_i, ↓bi_sub, ↓bi_eql, ↓bi_gtr, ↓in_i64, ↓ldK_q, ↓iaK_l, ↓op_move, ↓op_assign, ↓op_pick, ↓op_bin, ↓op_not, ↓op_extract, ↓op_len, ↓op_call, isD_d, ↓fnK_f, ↓call_H, ↓callK_H, ↓allT_nil, ↓allT_cons, ↓td_d, ↓ret_1, ↓draw_H, ↓h_nil, ↓h_cons, ↓ldH_n, ↓ldH_g, ↓q_bi, ↓q_move, ↓q_assign, ↓q_pick, ↓q_load, ↓q_bin, ↓q_ia, ↓il_move, ↓il_assign, ↓il_pick, ↓il_load, ↓il_bin, ↓il_ia, ↓il_len, ↓st_tm, ↓cells_c, ↓hd_cons, ↓ty3, ↓sl29, List.getD_cons_zero, List.getD_cons_succ, List.set_cons_zero, List.set_cons_succ, List.append_nil, List.map_cons, List.map_nil, List.length_cons, List.length_nil, List.length_map, List.all_cons, List.all_nil, Bool.and_true, Bool.true_and, Bool.and_self, Bool.true_or, Nat.reduceAdd, Nat.reduceSub, Nat.reduceMul, Nat.zero_add, Int.toNat_natCast, Int.toNat_zero, evK_go, reduceIte, decide_true, Bool.not_true, Nat.reduceEqDiff, Nat.reduceLT, and_self, true_and, and_true, Int.zero_add, Int.cast_ofNat_Int, Int.natCast_nonneg, Int.natCast_inj]
      (repeat refine OrH.l ?_)
      refine ⟨by omega, ?_⟩
      (repeat refine OrH.l ?_)
      refine ⟨DrawH.of follows_mixed (by kernel_rfl), ?_⟩
      omega
    · have dA := decide_eq_false (fun h : W.getD k default = y => hxy (hx.symm.trans h))
      have dB := decide_eq_true hx
      have dC := decide_eq_true hy
      simp (implicitDefEqProofs := false) (dsimp := false) only [tmid_call, hl62, hc, e1, e3, inT_call, q3, q4, h20, h21, nD, e2, q5, q6, q7, z0, z1, t1, dA, dB, dC, ↓atH_zero, ↓atH_one, eval_nilI, ↓er_neq, ↓cdK_true, ↓cdK_false, ↓gdK_t, ↓gdK_f, ↓gval_mk, ↓gvL_zero, ↓gvL_succ, ↓atK_H, ↓atH_map, ↓nthK_H, ↓nthH_zero, ↓nthH_succ, ↓aw_cond, ↓aw_seq, ↓aw_ret, ↓aw_skip, ↓aw_reg, ↓aw_draw, ↓Qseq_n, ↓Qret_r, ↓ops_nil, ↓ops_cons, ↓ops_guard, ↓eval_tmp, ↓eval_int, ↓eval_bool, ↓eval_func, ↓put_some, ↓bK_b, ↓iK_i, ↓lenK_l, ↓ev_move, ↓ev_assign, ↓ev_pick, ↓ev_load, ↓ev_bin, ↓ev_ia, ↓tK_t, ↓ev_len, ↓binE_i, ↓bi_sub, ↓bi_eql, ↓bi_gtr, ↓in_i64, ↓ldK_q, ↓iaK_l, ↓op_move, ↓op_assign, ↓op_pick, ↓op_bin, ↓op_not, ↓op_extract, ↓op_len, ↓op_call, isD_d, ↓fnK_f, ↓call_H, ↓callK_H, ↓allT_nil, ↓allT_cons, ↓td_d, ↓ret_1, ↓draw_H, ↓h_nil, ↓h_cons, ↓ldH_n, ↓ldH_g, ↓q_bi, ↓q_move, ↓q_assign, ↓q_pick, ↓q_load, ↓q_bin, ↓q_ia, ↓il_move, ↓il_assign, ↓il_pick, ↓il_load, ↓il_bin, ↓il_ia, ↓il_len, ↓st_tm, ↓cells_c, ↓hd_cons, ↓ty3, ↓sl29, List.getD_cons_zero, List.getD_cons_succ, List.set_cons_zero, List.set_cons_succ, List.append_nil, List.map_cons, List.map_nil, List.length_cons, List.length_nil, List.length_map, List.all_cons, List.all_nil, Bool.and_true, Bool.true_and, Bool.and_self, Bool.true_or, Nat.reduceAdd, Nat.reduceSub, Nat.reduceMul, Nat.zero_add, Int.toNat_natCast, Int.toNat_zero, evK_go, reduceIte, decide_true, Bool.not_true, Nat.reduceEqDiff, Nat.reduceLT, and_self, true_and, and_true, Int.zero_add, Int.cast_ofNat_Int, Int.natCast_nonneg, Int.natCast_inj]
      (repeat refine OrH.l ?_)
      refine ⟨by omega, ?_⟩
      (repeat refine OrH.l ?_)
      refine ⟨DrawH.of follows_mixed (by kernel_rfl), ?_⟩
      omega
end Go.Proofs

namespace Go.Proofs
open Go.Aw Go.ChangeShapes Go.WideShapes Go.ChangeAt Go.RowKit Go.Deep
set_option linter.unusedVariables false
set_option maxRecDepth 100000
theorem tkids : Kids Try.prog (· < Try.prog.types.size) := kids_rows (by kernel_rfl) (by kernel_rfl)
theorem tfull : ∀ t e, t < Try.prog.types.size → Try.prog.underlying t = some (.slice e) → 0 < Try.prog.cellsOf e := slices_full_of _ (by kernel_rfl)
theorem tu3 : Try.prog.underlying 3 = some (.int .i64) := by kernel_rfl
theorem tu4 : Try.prog.underlying 4 = some .bool := by kernel_rfl
theorem tu22 : Try.prog.underlying 22 = some (.slice 28) := by kernel_rfl
theorem tc35 : Try.prog.cellsOf 28 = 2 := by kernel_rfl
theorem tc3 : Try.prog.cellsOf 3 = 1 := by kernel_rfl
theorem tb35 : Try.prog.bytesOf 28 = 16 := by kernel_rfl
section
variable {H : Type} {enc : TypeId × Value → H} {P : Program} {w w' : World} {base : Nat} {spare : Nat → Bool} {held : Bool}
theorem trodAll_later : ∀ {ts : List TypeId} {vs : List Value} {ds : List (DataW H)} {ps : List MemPlace}, DataW.TrodAll enc P w base spare held ts vs ds ps → (∀ p ∈ ps, w.sameAt w' p) → DataW.TrodAll enc P w' base spare held ts vs ds ps
  | [], [], [], _, h, _ => h
  | _ :: _, _ :: _, _ :: _, _, ⟨p, q, ⟨n, h1⟩, h2, e⟩, hs => ⟨p, q, ⟨n, DataW.trod_carry n _ _ _ h1 (fun x hx => hs x (by rw [e]; exact List.mem_append_left _ hx))⟩, trodAll_later h2 (fun x hx => hs x (by rw [e]; exact List.mem_append_right _ hx)), e⟩
end
/-- A law's end: true, and all as it was. -/
theorem law_post {H : Type} {enc : TypeId × Value → H} {fn : Func} {s : ChangeSpec} {W W' : World} {args : Array Value} {ds gs : List (DataW H)} {before : List MemPlace} (hv : s.vars = []) (hrt : fn.resultTypes = #[4])
    (hpt : ∀ t ∈ fn.params.toList, t < Try.prog.types.size) (hW : DataW.Whole enc Try.prog fn.params.toList s.vars false W args.toList ds gs before)
    (hs : (s.fn H (ds ++ gs)).results = [.lit (.bool true)] ∧ (s.fn H (ds ++ gs)).args = ds ∧ (s.fn H (ds ++ gs)).vars = []) (hB : Below W.heap.size W W') : s.post enc Try.prog fn false true false false W args (.bool true) W' := by
  have hW' := hW
  obtain ⟨p, q, hA, hV, rfl, hfz, hnd⟩ := hW
  have hlt := hW'.lt
  rw [hv] at hV
  obtain ⟨rfl, rfl⟩ := trodVars_none hV
  obtain ⟨h1, h2, h3⟩ := hs
  refine ⟨ds, [], p ++ [], [], p, [], hW', ?_, ?_, ?_, hB.frame _, fun h => by cases h⟩
  · rw [h1, hrt]
    exact trodAll_mk1 (shut_bool tu4 true)
  · rw [h2]
    refine DataW.TrodAll.respare tkids tfull hpt (trodAll_later hA fun x hx => hB.same (hlt x (List.mem_append_left _ hx))) fun x hx => ?_
    simpa using hlt x (List.mem_append_left _ hx)
  · rw [h3, hv]; rfl
/-- What lies there already. -/
abbrev Old (W : World) (b : Nat) : Prop := b < W.heap.size
section
variable {H : Type} {enc : TypeId × Value → H} {W : World} {held : Bool}
theorem arg_int {v : Value} {d : DataW H} {p : List MemPlace} {r : Reach} {b0 : Nat} (hval : Value.okWide Try.prog W r b0 3 v) (h : DataW.Trod enc Try.prog W 0 (fun _ => true) held 3 v d p) : ∃ n : Int, RelD W (Old W) (I .i64 n) v ∧ (-9223372036854775808 ≤ n ∧ n ≤ 9223372036854775807) := by
  obtain ⟨n, rfl, _, _, hw⟩ := open_int tu3 hval h
  exact ⟨n, .c _, by simpa [Lit.wf, IntKind.min, IntKind.max, IntKind.signed, IntKind.bits] using hw⟩
theorem arg_lines {v : Value} {d : DataW H} {p : List MemPlace} {r : Reach} {b0 : Nat} (hval : Value.okWide Try.prog W r b0 22 v) (h : DataW.Trod enc Try.prog W 0 (fun _ => true) held 22 v d p) :
    ∃ l : List (Int × Int), RelD W (Old W) (.l (l.map lnD)) v ∧ ((d = .nil ∧ l = []) ∨ ∃ elems spare, d = .slice elems spare ∧ elems.length = l.length) := by
  obtain ⟨a0, len, cap, rfl⟩ := okWide_slice tu22 hval
  obtain ⟨fuel, hf⟩ := h
  rcases open_slice_pairs tu22 Try.underlying28 tc35 rfl rfl tc3 tc3 hf with ⟨hcs, hx⟩ | ⟨a, len', cap', m, n, V0, V1, D0, D1, P0, P1, hcs, _, hl, hm, hmm, hx, hc⟩
  · simp [Value.cells] at hcs
    obtain ⟨rfl, rfl, rfl⟩ := hcs
    simp (implicitDefEqProofs := false) (dsimp := false) only [Prod.mk.injEq] at hx
    exact ⟨[], .nl none 0, .inl ⟨hx.1, rfl⟩⟩
  · simp [Value.cells] at hcs
    obtain ⟨rfl, rfl, rfl⟩ := hcs
    simp (implicitDefEqProofs := false) (dsimp := false) only [Prod.mk.injEq] at hx
    simp (implicitDefEqProofs := false) (dsimp := false) only [if_true] at hmm
    subst hmm
    have hint : ∀ i, ∃ q : Int × Int, i < len → W.cell? (a.add (i * 2)) = some (.int .i64 q.1) ∧ W.cell? (a.add (i * 2 + 1)) = some (.int .i64 q.2) := by
      intro i
      by_cases hi : i < len
      · obtain ⟨h1, h2, h3, h4⟩ := hc i (by omega)
        obtain ⟨x, e1, _, _⟩ := DataW.trod_int tu3 h3
        obtain ⟨y, e2, _, _⟩ := DataW.trod_int tu3 h4
        simp (implicitDefEqProofs := false) (dsimp := false) only [List.cons.injEq, and_true] at e1 e2
        exact ⟨(x, y), fun _ => ⟨by rw [h1, e1], by rw [h2, e2]⟩⟩
      · exact ⟨(0, 0), fun h => absurd h hi⟩
    obtain ⟨Q, hQ⟩ : ∃ Q : Nat → Int × Int, ∀ i, i < len → W.cell? (a.add (i * 2)) = some (.int .i64 (Q i).1) ∧ W.cell? (a.add (i * 2 + 1)) = some (.int .i64 (Q i).2) := ⟨fun i => Classical.choose (hint i), fun i => Classical.choose_spec (hint i)⟩
    refine ⟨(List.range len).map Q, ?_, .inr ⟨_, _, hx.1, by simp⟩⟩
    by_cases h0 : len = 0
    · subst h0; exact .nl _ _
    have hxs : ∀ (i : Nat) (x : D), (((List.range len).map Q).map lnD)[i]? = some x → i < len ∧ x = lnD (Q i) := by
      intro i x hx
      rw [List.getElem?_map, List.getElem?_map] at hx
      by_cases hi : i < len
      · rw [List.getElem?_range hi] at hx
        simp at hx
        exact ⟨hi, hx.symm⟩
      · rw [List.getElem?_eq_none (by simp; omega)] at hx; cases hx
    have hlen : len = (((List.range len).map Q).map lnD).length := by simp
    have hrel := RelD.l (w := W) (N := Old W) (((List.range len).map Q).map lnD) a _ 2 (fun i k => if k = 0 then .int .i64 (Q i).1 else .int .i64 (Q i).2) (by rw [← hlen]; exact hl) ?_ ?_ ?_ ?_
    · rw [← hlen] at hrel
      exact hrel
    · have := (hQ 0 (by omega)).1
      unfold World.cell? at this
      split at this
      · rename_i C et fr hb
        have hb' := (Array.getElem?_eq_some_iff.1 hb).1
        rw [add_block] at hb'
        exact hb'
      · cases this
    · intro i x hx
      obtain ⟨_, rfl⟩ := hxs i x hx
      rfl
    · intro i k x y hx hy
      obtain ⟨hi, rfl⟩ := hxs i x hx
      match k, hy with
      | 0, hy => exact (hQ i hi).1
      | 1, hy => exact (hQ i hi).2
    · intro i k x y hx hy
      obtain ⟨hi, rfl⟩ := hxs i x hx
      match k, hy with
      | 0, hy => cases hy; exact .c _
      | 1, hy => cases hy; exact .c _
theorem lines_len {ts : List TypeId} {ds : List (DataW H)} {j : Nat} {l : List (Int × Int)} (h : (DataW.weightsEach Try.prog ts ds).all (· ≤ reachBytes) = true) (ht : ts[j]? = some 22) {d : DataW H} (hd : ds[j]? = some d)
    (hl : (d = .nil ∧ l = []) ∨ ∃ elems spare, d = .slice elems spare ∧ elems.length = l.length) : l.length < 2 ^ 43 := by
  rcases hl with ⟨_, rfl⟩ | ⟨elems, spare, rfl, e⟩
  · simp
  · have := sized_slice h ht hd tu22
    rw [tb35] at this
    have := reachBytes_lt
    omega
end
theorem argsOK_nil (w : World) (N : Nat → Prop) : ArgsOK w N [] [] := ⟨rfl, fun k d v h => by simp at h⟩
theorem argsOK_cons {w : World} {N : Nat → Prop} {d : D} {ds : List D} {v : Value} {vs : List Value} (h : RelD w N d v) (hs : ArgsOK w N ds vs) : ArgsOK w N (d :: ds) (v :: vs) :=
  ⟨by simp [hs.1], fun k d' v' hd hv => by
    cases k with
    | zero => simp at hd hv; subst hd; subst hv; exact h
    | succ k => exact hs.2 k d' v' (by simpa using hd) (by simpa using hv)⟩
theorem pGl (W : World) : Gl Try.prog W := fun g hg => by
  rw [show Try.prog.globalNamed "errors.errorType" = none by kernel_rfl] at hg
  cases hg
/-- A law's call. -/
theorem law_calls {f : FuncId} {ds : List D} (h : FnD Try.prog f ds (Bo true)) (W : World) (hg : Gl Try.prog W) (vs : List Value) (ha : ArgsOK W (Old W) ds vs) : Calls Try.prog f vs.toArray W fun e W' => e = .returned (.bool true) ∧ Below W.heap.size W W' := by
  have := callsIn_wide.1 (h.2 W (Old W) vs hg (fun b h => h) ha)
  refine this.mono fun e W' ⟨r, v, hr, he, hB, hres⟩ => ?_
  subst hr
  have hv : v = .bool true := relD_c hres
  exact ⟨by rw [he, hv], hB⟩
end Go.Proofs

namespace Go.Proofs
set_option maxRecDepth 100000
theorem cutNo : ("cut".toList == "gc".toList || "cut".toList == "spec".toList) = false := by kernel_rfl
theorem cutNo2 : ("cut".toList == "carried".toList) = false := by kernel_rfl
theorem cutStrip (T : List (List Char)) : stripLifts liftWords ("cut".toList :: T) = ([], "cut".toList :: T) := by kernel_rfl
theorem make_of {P : Program} {T : List (List Char)} (h : behindMainWord (wordsSigns P.initOrder.toList) = "cut".toList :: T) : P.make = some .cut := by
  unfold Program.make
  rw [h]
  simp (implicitDefEqProofs := false) (dsimp := false) only [cutNo, beq_self_eq_true, Bool.true_or, Bool.false_eq_true, if_false, if_true]
theorem enter_of {P : Program} {T : List (List Char)} (h : behindMainWord (wordsSigns P.initOrder.toList) = "cut".toList :: T) (h1 : P.laysLater = false) (h2 : P.bearsReflect = false) (h3 : P.doorRows = []) : P.mayEnter = true := by
  unfold Program.mayEnter
  rw [h]
  simp (implicitDefEqProofs := false) (dsimp := false) only [cutStrip, cutNo, cutNo2, h1, h2, Program.doorFits, h3, List.head?_cons, beq_self_eq_true, Bool.not_false, Bool.or_true, Bool.and_true, Bool.true_and]
  rfl
theorem final_of {P : Program} {T : List (List Char)} (h : behindMainWord (wordsSigns P.initOrder.toList) = "cut".toList :: T) : P.liftsFinal = false := by
  unfold Program.liftsFinal Program.headLifts
  rw [h]
  simp (implicitDefEqProofs := false) (dsimp := false) only [cutStrip]
  kernel_rfl
theorem cutWord : behindMainWord (wordsSigns Try.prog.initOrder.toList) = "cut".toList :: (behindMainWord (wordsSigns Try.prog.initOrder.toList)).tail := by
  have h : Try.prog.initOrder.toList = _ := String.toList_ofList
  rw [h]
  show (_ : List (List Char)) = _
  kernel_rfl
theorem pLater : Try.prog.laysLater = false := by
  unfold Program.laysLater
  rw [← Array.any_toList]
  kernel_rfl
theorem pReflect : Try.prog.bearsReflect = false := by kernel_rfl
theorem pDoor : Try.prog.doorRows = [] := by kernel_rfl
theorem pMake : Try.prog.make = some .cut := make_of cutWord
theorem pEnter : Try.prog.mayEnter = true := enter_of cutWord pLater pReflect pDoor
theorem pFinal : Try.prog.liftsFinal = false := final_of cutWord
theorem pLaid : laidOutB Try.prog = true := by kernel_rfl
theorem pRowed : mapsRowed Try.prog = true := by kernel_rfl
theorem pStops : (Try.prog.stops == []) = true := by kernel_rfl
theorem pKnobs : (Try.prog.stopKnobs == []) = true := by kernel_rfl
theorem pHeard : Try.prog.stopsHeard = true := by kernel_rfl
theorem pOwn : ownKnob Try.prog.godebug = none := by kernel_rfl
theorem andB {a b : Bool} (ha : a = true) (hb : b = true) : (a && b) = true := by rw [ha, hb]; rfl
end Go.Proofs
