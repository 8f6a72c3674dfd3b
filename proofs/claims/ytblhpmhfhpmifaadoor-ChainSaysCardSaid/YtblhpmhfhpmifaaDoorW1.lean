/- Part W 1 of what the proof of ChainSays stands on: what the functions of the program compute. -/
import Derived.Test.YtblhpmhfhpmifaaDoorM1
import Derived.Test.YtblhpmhfhpmifaaDoorProg
import Derived.KernelRfl
import Derived.RangeFuncKeeps
import Derived.RangeFuncLeaves
import Derived.Shelf.Abstract
import Derived.WalkKit
import Derived.OwnWalkIn
import Derived.TacticsInMore
import Derived.LoopNIn
import Derived.LoopIn
import Derived.LaidEql
import Derived.Stop.Asserts
import Derived.RowKitTokens
import Derived.Test.YtblhpmhfhpmifaaDoorRows
import Derived.ProofKit
import Derived.LaidLaws
import Derived.LaidHandle
import Derived.Stop.Joined
import Derived.SevenTiedAt
import Derived.JoinedOf
import Derived.JoinedCond
import Derived.SizedLaws
import Derived.ReadAgain
import Derived.Deep.SlicePairs
import Derived.Deep.Matrix
import Derived.Lib.SmallJoins
set_option linter.unusedVariables false
set_option linter.unusedSimpArgs false
namespace Go.Proofs
open Go.Aw
theorem ty2 (k : Bool → Nat → Prop) : tyK Tryd.prog 2 k = k false 1 := tyK_eq (by kernel_rfl) k
theorem zb2 (k : Value → Nat → Prop) : zbK Tryd.prog 2 k = k (.int .i64 0) 8 := zbK_eq (by kernel_rfl) k
theorem ty3 (k : Bool → Nat → Prop) : tyK Tryd.prog 3 k = k false 1 := tyK_eq (by kernel_rfl) k
theorem zb3 (k : Value → Nat → Prop) : zbK Tryd.prog 3 k = k (.int .i64 0) 8 := zbK_eq (by kernel_rfl) k
theorem ty4 (k : Bool → Nat → Prop) : tyK Tryd.prog 4 k = k false 1 := tyK_eq (by kernel_rfl) k
theorem zb4 (k : Value → Nat → Prop) : zbK Tryd.prog 4 k = k (.bool false) 1 := zbK_eq (by kernel_rfl) k
theorem ty22 (k : Bool → Nat → Prop) : tyK Tryd.prog 22 k = k false 1 := tyK_eq (by kernel_rfl) k
theorem sl22 (k : TypeId → Prop) : slK Tryd.prog 22 k = k 41 := slK_eq (by kernel_rfl) k
theorem zb22 (k : Value → Nat → Prop) : zbK Tryd.prog 22 k = k (.slice none 0 0) 24 := zbK_eq (by kernel_rfl) k
theorem ty24 (k : Bool → Nat → Prop) : tyK Tryd.prog 24 k = k false 1 := tyK_eq (by kernel_rfl) k
theorem sl24 (k : TypeId → Prop) : slK Tryd.prog 24 k = k 3 := slK_eq (by kernel_rfl) k
theorem zb24 (k : Value → Nat → Prop) : zbK Tryd.prog 24 k = k (.slice none 0 0) 24 := zbK_eq (by kernel_rfl) k
theorem ty29 (k : Bool → Nat → Prop) : tyK Tryd.prog 29 k = k false 1 := tyK_eq (by kernel_rfl) k
theorem ty40 (k : Bool → Nat → Prop) : tyK Tryd.prog 40 k = k true 2 := tyK_eq (by kernel_rfl) k
theorem zb40 (k : Value → Nat → Prop) : zbK Tryd.prog 40 k = k (.agg #[.int .i64 0, .int .i64 0]) 16 := zbK_eq (by kernel_rfl) k
theorem fd40_0 (k : Nat → Nat → Prop) : fdK Tryd.prog 40 0 k = k 0 1 := fdK_eq (by kernel_rfl) k
theorem fd40_1 (k : Nat → Nat → Prop) : fdK Tryd.prog 40 1 k = k 1 1 := fdK_eq (by kernel_rfl) k
theorem bd40 (k : Nat → Nat → Prop) : bdK Tryd.prog 40 k = k 1 1 := bdK_eq (by kernel_rfl) k
theorem ty41 (k : Bool → Nat → Prop) : tyK Tryd.prog 41 k = k true 2 := tyK_eq (by kernel_rfl) k
theorem zb41 (k : Value → Nat → Prop) : zbK Tryd.prog 41 k = k (.agg #[.int .i64 0, .int .i64 0]) 16 := zbK_eq (by kernel_rfl) k
theorem fd41_0 (k : Nat → Nat → Prop) : fdK Tryd.prog 41 0 k = k 0 1 := fdK_eq (by kernel_rfl) k
theorem fd41_1 (k : Nat → Nat → Prop) : fdK Tryd.prog 41 1 k = k 1 1 := fdK_eq (by kernel_rfl) k
theorem bd41 (k : Nat → Nat → Prop) : bdK Tryd.prog 41 k = k 1 1 := bdK_eq (by kernel_rfl) k
theorem ty45 (k : Bool → Nat → Prop) : tyK Tryd.prog 45 k = k false 1 := tyK_eq (by kernel_rfl) k
theorem sl45 (k : TypeId → Prop) : slK Tryd.prog 45 k = k 93 := slK_eq (by kernel_rfl) k
theorem zb45 (k : Value → Nat → Prop) : zbK Tryd.prog 45 k = k (.slice none 0 0) 24 := zbK_eq (by kernel_rfl) k
theorem ty46 (k : Bool → Nat → Prop) : tyK Tryd.prog 46 k = k false 1 := tyK_eq (by kernel_rfl) k
theorem sl46 (k : TypeId → Prop) : slK Tryd.prog 46 k = k 4 := slK_eq (by kernel_rfl) k
theorem zb46 (k : Value → Nat → Prop) : zbK Tryd.prog 46 k = k (.slice none 0 0) 24 := zbK_eq (by kernel_rfl) k
theorem ty69 (k : Bool → Nat → Prop) : tyK Tryd.prog 69 k = k false 1 := tyK_eq (by kernel_rfl) k
theorem sl69 (k : TypeId → Prop) : slK Tryd.prog 69 k = k 24 := slK_eq (by kernel_rfl) k
theorem zb69 (k : Value → Nat → Prop) : zbK Tryd.prog 69 k = k (.slice none 0 0) 24 := zbK_eq (by kernel_rfl) k
theorem ty90 (k : Bool → Nat → Prop) : tyK Tryd.prog 90 k = k true 2 := tyK_eq (by kernel_rfl) k
theorem zb90 (k : Value → Nat → Prop) : zbK Tryd.prog 90 k = k (.agg #[.int .i64 0, .bool false]) 16 := zbK_eq (by kernel_rfl) k
theorem fd90_0 (k : Nat → Nat → Prop) : fdK Tryd.prog 90 0 k = k 0 1 := fdK_eq (by kernel_rfl) k
theorem fd90_1 (k : Nat → Nat → Prop) : fdK Tryd.prog 90 1 k = k 1 1 := fdK_eq (by kernel_rfl) k
theorem bd90 (k : Nat → Nat → Prop) : bdK Tryd.prog 90 k = k 1 1 := bdK_eq (by kernel_rfl) k
theorem ty91 (k : Bool → Nat → Prop) : tyK Tryd.prog 91 k = k true 2 := tyK_eq (by kernel_rfl) k
theorem zb91 (k : Value → Nat → Prop) : zbK Tryd.prog 91 k = k (.agg #[.int .i64 0, .bool false]) 16 := zbK_eq (by kernel_rfl) k
theorem fd91_0 (k : Nat → Nat → Prop) : fdK Tryd.prog 91 0 k = k 0 1 := fdK_eq (by kernel_rfl) k
theorem fd91_1 (k : Nat → Nat → Prop) : fdK Tryd.prog 91 1 k = k 1 1 := fdK_eq (by kernel_rfl) k
theorem bd91 (k : Nat → Nat → Prop) : bdK Tryd.prog 91 k = k 1 1 := bdK_eq (by kernel_rfl) k
theorem ty92 (k : Bool → Nat → Prop) : tyK Tryd.prog 92 k = k true 4 := tyK_eq (by kernel_rfl) k
theorem zb92 (k : Value → Nat → Prop) : zbK Tryd.prog 92 k = k (.agg #[.int .i64 0, .bool false, .int .i64 0, .bool false]) 32 := zbK_eq (by kernel_rfl) k
theorem fd92_0 (k : Nat → Nat → Prop) : fdK Tryd.prog 92 0 k = k 0 2 := fdK_eq (by kernel_rfl) k
theorem fd92_1 (k : Nat → Nat → Prop) : fdK Tryd.prog 92 1 k = k 2 2 := fdK_eq (by kernel_rfl) k
theorem bd92 (k : Nat → Nat → Prop) : bdK Tryd.prog 92 k = k 2 2 := bdK_eq (by kernel_rfl) k
theorem ty93 (k : Bool → Nat → Prop) : tyK Tryd.prog 93 k = k true 4 := tyK_eq (by kernel_rfl) k
theorem zb93 (k : Value → Nat → Prop) : zbK Tryd.prog 93 k = k (.agg #[.int .i64 0, .bool false, .int .i64 0, .bool false]) 32 := zbK_eq (by kernel_rfl) k
theorem fd93_0 (k : Nat → Nat → Prop) : fdK Tryd.prog 93 0 k = k 0 2 := fdK_eq (by kernel_rfl) k
theorem fd93_1 (k : Nat → Nat → Prop) : fdK Tryd.prog 93 1 k = k 2 2 := fdK_eq (by kernel_rfl) k
theorem bd93 (k : Nat → Nat → Prop) : bdK Tryd.prog 93 k = k 2 2 := bdK_eq (by kernel_rfl) k
theorem ty99 (k : Bool → Nat → Prop) : tyK Tryd.prog 99 k = k false 1 := tyK_eq (by kernel_rfl) k
theorem sl99 (k : TypeId → Prop) : slK Tryd.prog 99 k = k 102 := slK_eq (by kernel_rfl) k
theorem zb99 (k : Value → Nat → Prop) : zbK Tryd.prog 99 k = k (.slice none 0 0) 24 := zbK_eq (by kernel_rfl) k
theorem ty101 (k : Bool → Nat → Prop) : tyK Tryd.prog 101 k = k false 1 := tyK_eq (by kernel_rfl) k
theorem zb101 (k : Value → Nat → Prop) : zbK Tryd.prog 101 k = k (.int .u64 0) 8 := zbK_eq (by kernel_rfl) k
theorem ty102 (k : Bool → Nat → Prop) : tyK Tryd.prog 102 k = k false 1 := tyK_eq (by kernel_rfl) k
theorem zb102 (k : Value → Nat → Prop) : zbK Tryd.prog 102 k = k (.int .u64 0) 8 := zbK_eq (by kernel_rfl) k
theorem ty108 (k : Bool → Nat → Prop) : tyK Tryd.prog 108 k = k false 1 := tyK_eq (by kernel_rfl) k
theorem zb108 (k : Value → Nat → Prop) : zbK Tryd.prog 108 k = k (.int .i64 0) 8 := zbK_eq (by kernel_rfl) k
theorem nc108 : ncI Tryd.prog 108 = true := by kernel_rfl
theorem ty114 (k : Bool → Nat → Prop) : tyK Tryd.prog 114 k = k true 2 := tyK_eq (by kernel_rfl) k
theorem zb114 (k : Value → Nat → Prop) : zbK Tryd.prog 114 k = k (.agg #[.int .i64 0, .int .i64 0]) 16 := zbK_eq (by kernel_rfl) k
theorem ar114 (k : Nat → TypeId → Prop) : arK Tryd.prog 114 k = k 2 3 := arK_eq (by kernel_rfl) k
theorem bd114 (k : Nat → Nat → Prop) : bdK Tryd.prog 114 k = k 1 1 := bdK_eq (by kernel_rfl) k
theorem ty118 (k : Bool → Nat → Prop) : tyK Tryd.prog 118 k = k true 2 := tyK_eq (by kernel_rfl) k
theorem zb118 (k : Value → Nat → Prop) : zbK Tryd.prog 118 k = k (.agg #[.slice none 0 0, .slice none 0 0]) 48 := zbK_eq (by kernel_rfl) k
theorem ar118 (k : Nat → TypeId → Prop) : arK Tryd.prog 118 k = k 2 69 := arK_eq (by kernel_rfl) k
theorem bd118 (k : Nat → Nat → Prop) : bdK Tryd.prog 118 k = k 1 1 := bdK_eq (by kernel_rfl) k
theorem ty126 (k : Bool → Nat → Prop) : tyK Tryd.prog 126 k = k false 1 := tyK_eq (by kernel_rfl) k
theorem ty153 (k : Bool → Nat → Prop) : tyK Tryd.prog 153 k = k false 1 := tyK_eq (by kernel_rfl) k
theorem sl153 (k : TypeId → Prop) : slK Tryd.prog 153 k = k 29 := slK_eq (by kernel_rfl) k
theorem zb153 (k : Value → Nat → Prop) : zbK Tryd.prog 153 k = k (.slice none 0 0) 24 := zbK_eq (by kernel_rfl) k
theorem ty176 (k : Bool → Nat → Prop) : tyK Tryd.prog 176 k = k false 1 := tyK_eq (by kernel_rfl) k
theorem zb176 (k : Value → Nat → Prop) : zbK Tryd.prog 176 k = k (.int .u16 0) 2 := zbK_eq (by kernel_rfl) k
theorem ty183 (k : Bool → Nat → Prop) : tyK Tryd.prog 183 k = k false 1 := tyK_eq (by kernel_rfl) k
theorem follows_mixed : Tryd.prog.follows .mixedOrders = true := by kernel_rfl
end Go.Proofs

namespace Go.Proofs
open Go.Aw
set_option linter.unusedSimpArgs false
set_option maxRecDepth 10000

theorem shr_and_one (s i : Nat) : (s / 2 ^ i &&& 1 = 1) ↔ s.testBit i = true := by
  rw [Nat.and_one_is_mod, Nat.testBit_eq_decide_div_mod_eq]
  simp

theorem below_spec (n : Nat) (hpre : n < 64) : FnD Tryd.prog 82 [I .i64 (n : Int)] (U (2 ^ n - 1)) := by
  refine FnD.go Tryd.func82 rfl rfl Tryd.results82 Tryd.ntmps82 ?_
  simp (implicitDefEqProofs := false) (dsimp := false) only [↓aw_seq, ↓aw_ret, ↓aw_reg, ↓Qseq_n, ↓Qret_r, ↓ops_nil, ↓ops_cons, ↓eval_tmp, ↓eval_int, ↓put_some, ↓binE_i, ↓binE_shl, ↓bi_sub, ↓bi_shl1, ↓in_u64, ↓op_move, ↓op_assign, ↓op_bin, ↓td_d, ↓ret_1, List.getD_cons_zero, List.getD_cons_succ, List.set_cons_zero, List.set_cons_succ, List.cons_append, List.nil_append, List.map_cons, List.map_nil, List.length_cons, List.length_nil, Nat.reduceAdd, Nat.reduceSub, Nat.reduceMul, Nat.zero_add, List.replicate, evK_go, reduceIte, Nat.reduceEqDiff, Nat.reduceLT, Int.zero_add]
  have hp : 2 ^ n ≤ 2 ^ 63 := Nat.pow_le_pow_right (by omega) (by omega)
  have h1 : 1 ≤ 2 ^ n := Nat.one_le_two_pow
  have e : ((2 ^ n : Nat) : Int) - 1 = ((2 ^ n - 1 : Nat) : Int) := by omega
  refine ⟨hpre, ?_⟩
  simp (implicitDefEqProofs := false) (dsimp := false) only [e, Bool.and_true, Bool.true_and, Nat.reduceAdd, Nat.reduceSub, Nat.reduceMul, evK_go, reduceIte, Nat.reduceEqDiff, Nat.reduceLT, true_and, and_true, Int.natCast_nonneg]
  omega
theorem below_call (n : Nat) (pure : Bool) (σ : St) (dst : Option Tmp) (K : St → Prop) : CallH Tryd.prog 82 [I .i64 (n : Int)] pure σ dst (.mk : Hid K) = OrH ((n < 64) ∧ (pure || D.flat (U (2 ^ n - 1))) = true ∧ evK (σ.put dst (.d (U (2 ^ n - 1)))) (.mk : Hid K)) (.mk : Hid (CallH Tryd.prog 82 [I .i64 (n : Int)] pure σ dst (.mk : Hid K))) := CallH.eq (below_spec n) pure σ dst K
theorem without_spec (s i : Nat) (hpre : s < 2 ^ 64 ∧ i < 64) : FnD Tryd.prog 85 [U s, I .i64 (i : Int)] (U (dif s (2 ^ i))) := by
  refine FnD.go Tryd.func85 rfl rfl Tryd.results85 Tryd.ntmps85 ?_
  simp (implicitDefEqProofs := false) (dsimp := false) only [↓aw_seq, ↓aw_ret, ↓aw_reg, ↓Qseq_n, ↓Qret_r, ↓ops_nil, ↓ops_cons, ↓eval_tmp, ↓eval_int, ↓put_some, ↓binE_i, ↓binE_shl, ↓bi_andNot, ↓bi_shl1, ↓op_move, ↓op_assign, ↓op_bin, ↓td_d, ↓ret_1, List.getD_cons_zero, List.getD_cons_succ, List.set_cons_zero, List.set_cons_succ, List.cons_append, List.nil_append, List.map_cons, List.map_nil, List.length_cons, List.length_nil, Bool.and_true, Nat.reduceAdd, Nat.reduceSub, Nat.reduceMul, Nat.zero_add, List.replicate, evK_go, reduceIte, Nat.reduceEqDiff, Nat.reduceLT, and_true, Int.zero_add]
  have hp : 2 ^ i ≤ 2 ^ 63 := Nat.pow_le_pow_right (by omega) (by omega)
  exact ⟨hpre.2, hpre.1, by omega⟩
theorem without_call (s i : Nat) (pure : Bool) (σ : St) (dst : Option Tmp) (K : St → Prop) : CallH Tryd.prog 85 [U s, I .i64 (i : Int)] pure σ dst (.mk : Hid K) = OrH ((s < 2 ^ 64 ∧ i < 64) ∧ (pure || D.flat (U (dif s (2 ^ i)))) = true ∧ evK (σ.put dst (.d (U (dif s (2 ^ i))))) (.mk : Hid K)) (.mk : Hid (CallH Tryd.prog 85 [U s, I .i64 (i : Int)] pure σ dst (.mk : Hid K))) := CallH.eq (without_spec s i) pure σ dst K
theorem with_spec (s i : Nat) (hpre : s < 2 ^ 64 ∧ i < 64) : FnD Tryd.prog 96 [U s, I .i64 (i : Int)] (U (s ||| 2 ^ i)) := by
  refine FnD.go Tryd.func96 rfl rfl Tryd.results96 Tryd.ntmps96 ?_
  simp (implicitDefEqProofs := false) (dsimp := false) only [↓aw_seq, ↓aw_ret, ↓aw_reg, ↓Qseq_n, ↓Qret_r, ↓ops_nil, ↓ops_cons, ↓eval_tmp, ↓eval_int, ↓put_some, ↓binE_i, ↓binE_shl, ↓bi_or, ↓bi_shl1, ↓op_move, ↓op_assign, ↓op_bin, ↓td_d, ↓ret_1, List.getD_cons_zero, List.getD_cons_succ, List.set_cons_zero, List.set_cons_succ, List.cons_append, List.nil_append, List.map_cons, List.map_nil, List.length_cons, List.length_nil, Bool.and_true, Nat.reduceAdd, Nat.reduceSub, Nat.reduceMul, Nat.zero_add, List.replicate, evK_go, reduceIte, Nat.reduceEqDiff, Nat.reduceLT, and_true, Int.zero_add]
  have hp : 2 ^ i ≤ 2 ^ 63 := Nat.pow_le_pow_right (by omega) (by omega)
  exact ⟨hpre.2, hpre.1, by omega⟩
theorem with_call (s i : Nat) (pure : Bool) (σ : St) (dst : Option Tmp) (K : St → Prop) : CallH Tryd.prog 96 [U s, I .i64 (i : Int)] pure σ dst (.mk : Hid K) = OrH ((s < 2 ^ 64 ∧ i < 64) ∧ (pure || D.flat (U (s ||| 2 ^ i))) = true ∧ evK (σ.put dst (.d (U (s ||| 2 ^ i)))) (.mk : Hid K)) (.mk : Hid (CallH Tryd.prog 96 [U s, I .i64 (i : Int)] pure σ dst (.mk : Hid K))) := CallH.eq (with_spec s i) pure σ dst K
theorem with_callQ (s i : Nat) (pure : Bool) (C : V → Prop) : CallQ Tryd.prog 96 [U s, I .i64 (i : Int)] pure (.mk : Hid C) = OrH ((s < 2 ^ 64 ∧ i < 64) ∧ (pure || D.flat (U (s ||| 2 ^ i))) = true ∧ evK (V.d (U (s ||| 2 ^ i))) (.mk : Hid C)) (.mk : Hid (CallQ Tryd.prog 96 [U s, I .i64 (i : Int)] pure (.mk : Hid C))) := CallQ.eq (with_spec s i) pure C
theorem hasS_spec (s i : Nat) (hpre : s < 2 ^ 64 ∧ i ≤ 64) : FnD Tryd.prog 90 [U s, I .i64 (i : Int)] (Bo (s.testBit i)) := by
  refine FnD.go Tryd.func90 rfl rfl Tryd.results90 Tryd.ntmps90 ?_
  simp (implicitDefEqProofs := false) (dsimp := false) only [↓aw_seq, ↓aw_ret, ↓aw_reg, ↓Qseq_n, ↓Qret_r, ↓ops_nil, ↓ops_cons, ↓eval_tmp, ↓eval_int, ↓eval_bool, ↓put_some, ↓binE_i, ↓binE_shr, ↓bi_shr, ↓op_move, ↓op_assign, ↓op_bin, ↓ret_1, List.getD_cons_zero, List.getD_cons_succ, List.set_cons_zero, List.set_cons_succ, List.cons_append, List.nil_append, List.map_cons, List.map_nil, List.length_cons, List.length_nil, Bool.and_true, Bool.true_and, Nat.reduceAdd, Nat.reduceSub, Nat.reduceMul, Nat.zero_add, Int.toNat_natCast, List.replicate, evK_go, reduceIte, Nat.reduceEqDiff, Nat.reduceLT, true_and, and_true, Int.zero_add, Int.natCast_nonneg]
  have hl : s / 2 ^ i < 2 ^ 64 := Nat.lt_of_le_of_lt (Nat.div_le_self _ _) hpre.1
  have e1 : ((1 : Int)) = ((1 : Nat) : Int) := rfl
  refine ⟨by omega, ?_⟩
  rw [e1]
  simp (implicitDefEqProofs := false) (dsimp := false) only [↓binE_i, ↓bi_eql, ↓bi_and, ↓td_d, Nat.reduceAdd, Nat.reduceSub, Nat.reduceMul, evK_go, reduceIte, Nat.reduceEqDiff, Nat.reduceLT, Int.cast_ofNat_Int]
  refine ⟨⟨hl, by omega⟩, ?_⟩
  have := shr_and_one s i
  have h2 : (((s / 2 ^ i &&& 1 : Nat) : Int) = 1) ↔ s.testBit i = true := by rw [← this]; omega
  simp (implicitDefEqProofs := false) (dsimp := false) only [Bo_eq, h2, Nat.reduceAdd, Nat.reduceSub, Nat.reduceMul, evK_go, reduceIte, Nat.reduceEqDiff, Nat.reduceLT]
  cases s.testBit i <;> rfl
theorem hasS_call (s i : Nat) (pure : Bool) (σ : St) (dst : Option Tmp) (K : St → Prop) : CallH Tryd.prog 90 [U s, I .i64 (i : Int)] pure σ dst (.mk : Hid K) = OrH ((s < 2 ^ 64 ∧ i ≤ 64) ∧ (pure || D.flat (Bo (s.testBit i))) = true ∧ evK (σ.put dst (.d (Bo (s.testBit i)))) (.mk : Hid K)) (.mk : Hid (CallH Tryd.prog 90 [U s, I .i64 (i : Int)] pure σ dst (.mk : Hid K))) := CallH.eq (hasS_spec s i) pure σ dst K
end Go.Proofs

namespace Go.Proofs
open Go.RowKit Go.Shelf
attribute [local go_sem] Oper.semAt_some

/-- The points of a set, rising. -/
def upto (s n : Nat) : List Int := ((List.range n).filter fun i => s.testBit i).map Int.ofNat

theorem upto_succ (s n : Nat) : upto s (n + 1) = if s.testBit n then upto s n ++ [(n : Int)] else upto s n := by
  unfold upto
  rw [List.range_succ, List.filter_append]
  cases h : s.testBit n <;> simp [h]

theorem upto_pre (s : Nat) {n m : Nat} (h : n ≤ m) : upto s n <+: upto s m := by
  induction m with
  | zero => obtain rfl : n = 0 := by omega
            exact List.prefix_refl _
  | succ m ih =>
    rcases Nat.lt_or_ge n (m + 1) with h' | h'
    · refine (ih (by omega)).trans ?_
      rw [upto_succ]
      split
      · exact List.prefix_append _ _
      · exact List.prefix_refl _
    · obtain rfl : n = m + 1 := by omega
      exact List.prefix_refl _
theorem upto_end (s : Nat) {n : Nat} (hn : n ≤ 64) (h : s / 2 ^ n = 0) : upto s n = ptsI s := by
  have hb : ∀ i, n ≤ i → s.testBit i = false := fun i hi => by
    have h1 : s < 2 ^ n := by
      rcases Nat.lt_or_ge s (2 ^ n) with h' | h'
      · exact h'
      · have := Nat.div_pos h' (Nat.two_pow_pos n); omega
    exact Nat.testBit_lt_two_pow (Nat.lt_of_lt_of_le h1 (Nat.pow_le_pow_right (by omega) hi))
  have key : ∀ m, n ≤ m → upto s m = upto s n := fun m hm => by
    induction m with
    | zero => obtain rfl : n = 0 := by omega
              rfl
    | succ m ih =>
      rcases Nat.lt_or_ge n (m + 1) with h' | h'
      · rw [upto_succ, hb m (by omega)]
        simpa using ih (by omega)
      · obtain rfl : n = m + 1 := by omega
        rfl
  exact (key 64 hn).symm

theorem hasS_in (s i : Nat) (hs : s < 2 ^ 64) (hi : i ≤ 64) (w : World) (hg : Go.Aw.Gl Tryd.prog w) : CallsIn Fence.wide 0 Tryd.prog 90 #[.int .u64 (s : Int), .int .i64 (i : Int)] w fun e w' => e = .returned (.bool (s.testBit i)) ∧ Go.Aw.Stp (fun _ => False) w w' := by
  have h := (hasS_spec s i ⟨hs, hi⟩).2 w (fun _ => False) [.int .u64 (s : Int), .int .i64 (i : Int)] hg (fun _ h => h.elim) ⟨rfl, fun k d v hd hv => by
    match k, hd, hv with
    | 0, hd, hv => simp at hd hv; subst hd; subst hv; exact .c _
    | 1, hd, hv => simp at hd hv; subst hd; subst hv; exact .c _⟩
  refine CallsIn.mono h ?_
  rintro e w' ⟨r, v, rfl, rfl, hb, hv⟩
  cases hv
  exact ⟨rfl, Go.Aw.Stp.below hb rfl⟩

set_option maxRecDepth 100000 in
set_option maxHeartbeats 1000000 in
theorem each1_in (l : Nat) (ad : Addr) (s : Nat) (hs : s < 2 ^ 64) (J : List Int → World → Prop) (Jx : World → Prop)
    (hJc : ∀ pre W, J pre W → W.cell? ad = some (.int .u64 (s : Int))) (hJg : ∀ pre W, J pre W → Go.Aw.Gl Tryd.prog W) (hJs : ∀ pre W W', J pre W → Go.Aw.Stp (fun _ => False) W W' → J pre W')
    (hY : ∀ pre x W1, J pre W1 → (pre ++ [x]) <+: ptsI s → YieldAt Fence.wide 0 Tryd.prog l #[.int .i64 x] W1 fun e W' => (e = .returned (.bool true) ∧ J (pre ++ [x]) W') ∨ (e = .returned (.bool false) ∧ Jx W'))
    (W : World) (h0 : J [] W) :
    CallsIn Fence.wide 0 Tryd.prog 111 #[.func (.yield l) #[] #[], .pointer (some ad)] W fun e W' => (∃ v, e = .returned v) ∧ (J (ptsI s) W' ∨ Jx W') := by
  refine callsIn_of_wp Tryd.func111 rfl trivial ?_ rfl
  simp (implicitDefEqProofs := false) (dsimp := false) only [Tryd.ntmps111, List.size_toArray, List.length_cons, List.length_nil, Nat.reduceAdd, Nat.reduceSub, Array.replicate_succ, Array.replicate_zero, List.push_toArray, List.append_toArray, List.nil_append, List.cons_append]
  gi_wp2
  gi_loopw [3] (fun p wr => ∃ i : Nat, p = .int .i64 (i : Int) ∧ i ≤ 64 ∧ J (upto s i) wr)
    (fun p _ => match p with | .int _ n => (64 - n).toNat | _ => 0)
  case atStart =>
    exact ⟨0, rfl, by omega, h0⟩
  case round =>
    obtain ⟨i, rfl, hi, hJ⟩ := hrel
    have hc := hJc _ _ hJ
    gi_wp2
    · refine ⟨trivial, rfl, (hasS_in s i hs hi _ (hJg _ _ hJ)).mono ?_⟩
      rintro e W2 ⟨rfl, hst⟩
      have hJ2 := hJs _ _ _ hJ hst
      have hz : ((s : Int) / 2 ^ i != 0) = true := by assumption
      have hi' : i < 64 := by
        rcases Nat.lt_or_ge i 64 with h' | h'
        · exact h'
        · obtain rfl : i = 64 := by omega
          have : s / 2 ^ 64 = 0 := Nat.div_eq_of_lt hs
          have e : ((s / 2 ^ 64 : Nat) : Int) = (s : Int) / 2 ^ 64 := by simp
          rw [← e, this] at hz
          simp at hz
      have hup := upto_succ s i
      cases hb : s.testBit i with
      | false =>
        rw [hb] at hup
        gi_wp2
        refine ⟨fun f h => (by cases h), ?_⟩
        gi_wp2
        go_roundw
        case rel => exact ⟨i + 1, by simp, by omega, by rw [hup]; exact hJ2⟩
        case measure => simp; omega
      | true =>
        rw [hb, if_pos rfl] at hup
        have hpre : upto s i ++ [(i : Int)] <+: ptsI s := hup ▸ upto_pre s hi'
        obtain ⟨fn, tmps, assign, body, hy, hR⟩ := hY _ _ _ hJ2 hpre
        gi_wp2
        refine ⟨rfl, hR.mono ?_⟩
        rintro e W3 (⟨rfl, hJ3⟩ | ⟨rfl, hJx3⟩)
        · gi_wp2
          go_roundw
          case rel => exact ⟨i + 1, by simp, by omega, by rw [hup]; exact hJ3⟩
          case measure => simp; omega
        · gi_wp2
          refine bodyPost_ret (results_none rfl _ _ _) rfl ?_
          exact ⟨⟨_, rfl⟩, .inr hJx3⟩
    · go_end0
      refine ⟨⟨_, rfl⟩, .inl ?_⟩
      have h : ((s : Int) / 2 ^ i != 0) = false := by assumption
      have : s / 2 ^ i = 0 := by
        have e : ((s / 2 ^ i : Nat) : Int) = (s : Int) / 2 ^ i := by simp
        simp at h
        omega
      rw [← upto_end s hi this]
      exact hJ
end Go.Proofs

namespace Go.Proofs
open Go.Aw
set_option linter.unusedSimpArgs false
set_option maxRecDepth 10000
theorem each_iter (s : Nat) (hs : s < 2 ^ 64) : IterA Tryd.prog 111 [.q [U s]] (ptsI s) := by
  refine ⟨fun args w => enters_of Tryd.func111 rfl rfl args w, fun w N us hul hur l J Jx W hJg hJN hJs _ hY h0 => ?_⟩
  obtain ⟨v, rfl⟩ : ∃ v, us = #[v] := Array.size_eq_one_iff.1 hul
  have hv := hur 0 _ v rfl rfl
  obtain ⟨ad, u, rfl, hN, hc, hd⟩ := hv.q_inv
  have h1 := hc 0 _ rfl
  have h2 := hd 0 _ rfl
  rw [show ad.add 0 = ad by simp [Addr.add]] at h1
  have h3 : u 0 = .int .u64 (s : Int) := by
    generalize u 0 = z at h2
    cases h2
    rfl
  rw [h3] at h1
  exact each1_in l ad s hs J Jx (fun pre W hJ => (World.cell?_of_block (hJN pre W hJ _ hN)).trans h1) hJg hJs hY W h0

theorem each_spec (s : Nat) : FnD Tryd.prog 83 [U s] (.f (.func 111) [.q [U s]]) := by
  refine FnD.go Tryd.func83 rfl rfl Tryd.results83 Tryd.ntmps83 ?_
  simp (implicitDefEqProofs := false) (dsimp := false) only [↓aw_seq, ↓aw_ret, ↓aw_reg, ↓Qseq_n, ↓Qret_r, ↓ops_nil, ↓ops_cons, ↓eval_tmp, ↓put_some, ↓capsK_nil, ↓capsK_cons, ↓op_assign, ↓op_func, ↓op_box, ↓boxK_d, ↓td_fp, ↓bq_nil, ↓bq_cons, ↓ret_1, ↓addBox_mk, ↓st_bx, ↓cells_c, ↓vcells_c, ↓one_i, ↓vone_d, List.getD_cons_zero, List.getD_cons_succ, List.set_cons_zero, List.set_cons_succ, List.cons_append, List.nil_append, List.map_cons, List.map_nil, List.length_cons, List.length_nil, List.all_cons, List.all_nil, Bool.and_self, Nat.reduceAdd, Nat.reduceSub, Nat.reduceMul, Nat.zero_add, List.replicate, evK_go, reduceIte, Nat.reduceEqDiff, Nat.reduceLT, and_self, Int.zero_add]
theorem each_call (s : Nat) (pure : Bool) (σ : St) (dst : Option Tmp) (K : St → Prop) : CallH Tryd.prog 83 [U s] pure σ dst (.mk : Hid K) = OrH ((pure || D.flat (.f (.func 111) [.q [U s]])) = true ∧ evK (σ.put dst (.d (.f (.func 111) [.q [U s]]))) (.mk : Hid K)) (.mk : Hid (CallH Tryd.prog 83 [U s] pure σ dst (.mk : Hid K))) := CallH.eq0 (each_spec s) pure σ dst K
end Go.Proofs

namespace Go.Proofs
open Go.Aw
set_option linter.unusedSimpArgs false
set_option maxRecDepth 10000
theorem appendSeq_spec (s : Nat) (hs : s < 2 ^ 64) : FnR Tryd.prog 116 [.c (.slice none 0 0), .f (.func 111) [.q [U s]]] 1 ((ptsI s).map (I .i64)) := by
  refine FnR.go Tryd.func116 rfl rfl Tryd.results116 Tryd.ntmps116 ?_
  simp (implicitDefEqProofs := false) (dsimp := false) only [↓aw_seq, ↓aw_block, ↓aw_rng, ↓aw_reg, ↓Qseq_n, ↓ops_nil, ↓ops_cons, ↓eval_tmp, ↓eval_nil, ↓put_some, ↓op_move, ↓op_assign, ↓op_box, ↓addBox_mk, ↓st_bx, ↓vcells_c, ↓vone_d, List.getD_cons_zero, List.getD_cons_succ, List.set_cons_zero, List.set_cons_succ, List.cons_append, List.nil_append, List.map_cons, List.map_nil, List.length_cons, List.length_nil, List.all_cons, List.all_nil, Bool.and_true, Nat.reduceAdd, Nat.reduceSub, Nat.reduceMul, Nat.zero_add, List.replicate, evK_go, reduceIte, Nat.reduceEqDiff, Nat.reduceLT, and_true, Int.zero_add]
  refine ⟨rfl, ?_⟩
  refine rangeW (slots 13 [(2, .p 0 0), (6, .d (.f (.func 111) [.q [U s]]))]) (fun l : List Int => [.o 0 0 l.length]) (fun l => [some ⟨1, l.map (I .i64)⟩]) (fun pre l => l = pre) [] (by simp [slots]) (each_iter s hs) ?_ rfl ?_ ?_ ?_
  · simp (implicitDefEqProofs := false) (dsimp := false) only [slots, ↓eval_tmp, List.getD_cons_zero, List.getD_cons_succ, List.set_cons_zero, List.set_cons_succ, Nat.reduceAdd, Nat.reduceSub, Nat.reduceMul, List.replicate, evK_go, reduceIte, Nat.reduceEqDiff, Nat.reduceLT, List.foldl_cons, List.foldl_nil]
  · refine Wkn.of [0] [none] ?_
    simp (implicitDefEqProofs := false) (dsimp := false) only [↓row_xs, ↓vcells_c, ↓vcells_o, List.getD_cons_zero, List.set_cons_zero, List.set_cons_succ, List.map_nil, List.length_cons, List.length_nil, Bool.and_self, Nat.reduceAdd, Nat.reduceSub, Nat.reduceMul, Nat.zero_add, List.replicate, evK_go, reduceIte, Nat.reduceEqDiff, Nat.reduceLT, and_self, Int.zero_add, List.foldl_cons, List.foldl_nil, slots, wkL_nil, wkL_cons, wkB_nil, wkB_cons, wkR_nil, wkR_new, wkV_j, wkV_d, nlK_c, wkV_o, wkV_p, frz_d, oK_zn, pK_z, reduceCtorEq]
  · rintro pre x l hpx rfl
    have hl := hpx.length_le
    have h64 := ptsI_len s
    simp (implicitDefEqProofs := false) (dsimp := false) only [List.length_append, List.length_cons, List.length_nil] at hl
    simp (implicitDefEqProofs := false) (dsimp := false) only [slots, ↓optK_some, ↓rwK_mk_, ↓nthK_H, ↓nthH_zero, ↓aw_block, ↓aw_reg, ↓Qblk_n, ↓ops_nil, ↓ops_cons, ↓eval_tmp, ↓put_some, ↓put_none, ↓dK_d, ↓ldK_p, ↓op_move, ↓op_assign, ↓op_load, ↓op_append, ↓op_store, ↓allD_nil, ↓allD_cons, ↓setBox_mk, ↓app_mk, ↓st_bx, ↓row_sz, ↓row_xs, kill_d, kill_j, kill_p, kill_o, ↓cells_c, ↓vcells_j, ↓vcells_o, ↓one_i, ↓vone_o, ↓st_p, ↓ap_, ↓ap_o, ↓src_l, ↓bs_, ↓op_bs, ↓bsL_f, ↓stored_mk, ↓sl_nil, ↓sl_cons, ↓st_store_t, ↓sT_move, ↓sT_load, ↓sT_bs, ↓sT_call, ↓beq_some, ↓vsz_int, ↓inO_1, ↓fm_nil, ↓fm_cons, ↓Qn_n, ↓Qrd_n, ↓back_mk, ↓ty3, ↓zb3, ↓ty24, ↓sl24, List.getD_cons_zero, List.getD_cons_succ, List.set_cons_zero, List.set_cons_succ, List.map_cons, List.map_nil, List.length_cons, List.length_nil, List.length_map, List.all_cons, List.all_nil, Bool.true_and, Bool.and_self, Bool.or_false, Nat.reduceAdd, Nat.reduceSub, Nat.reduceMul, Nat.zero_add, List.replicate, evK_go, reduceIte, decide_false, Nat.reduceEqDiff, Nat.reduceLT, and_self, true_and, Int.zero_add, List.drop_zero, List.foldl_cons, List.foldl_nil]
    refine ⟨by omega, ⟨by simp, by omega, by omega⟩, l ++ [x], rfl, ?_⟩
    refine Wkn.of [0] [some 0] ?_
    simp (implicitDefEqProofs := false) (dsimp := false) only [List.map_append, List.length_append, ↓vcells_o, List.getD_cons_zero, List.map_cons, List.map_nil, List.length_cons, List.length_nil, Bool.and_self, Nat.reduceAdd, Nat.reduceSub, Nat.reduceMul, Nat.zero_add, evK_go, reduceIte, Nat.reduceEqDiff, Nat.reduceLT, and_self, Int.zero_add, slots, wkL_nil, wkL_cons, wkB_nil, wkB_cons, wkR_nil, wkR_some, wkV_j, wkV_d, wkV_o, wkV_p, frz_d, oK_zs, pK_z, reduceCtorEq]
  · rintro l rfl
    simp (implicitDefEqProofs := false) (dsimp := false) only [slots, ↓optK_some, ↓rwK_mk_, ↓nthK_H, ↓nthH_zero, ↓aw_seq, ↓aw_ret, ↓aw_reg, ↓Qseq_n, ↓Qblk_n, ↓ops_nil, ↓ops_cons, ↓eval_tmp, ↓put_some, ↓ldK_p, ↓op_assign, ↓op_load, ↓row_sz, ↓row_xs, ↓vcells_o, ↓take_map, ↓Qrow_r, ↓rowK_o, ↓ty24, List.getD_cons_zero, List.getD_cons_succ, List.set_cons_zero, List.set_cons_succ, Bool.and_self, Nat.reduceAdd, Nat.reduceSub, Nat.reduceMul, List.replicate, evK_go, reduceIte, Nat.reduceEqDiff, Nat.reduceLT, and_self, List.foldl_cons, List.foldl_nil]
theorem collect_spec (s : Nat) (hs : s < 2 ^ 64) : FnR Tryd.prog 112 [.f (.func 111) [.q [U s]]] 1 ((ptsI s).map (I .i64)) := by
  refine FnR.go Tryd.func112 rfl rfl Tryd.results112 Tryd.ntmps112 ?_
  simp (implicitDefEqProofs := false) (dsimp := false) only [↓aw_seq, ↓aw_reg, ↓Qseq_n, ↓ops_nil, ↓ops_cons, ↓eval_tmp, ↓eval_nil, ↓eval_func, ↓put_some, ↓op_move, ↓op_assign, ↓op_call, isD_d, isD_nl, ↓fnK_f, ↓call_H, ↓callK_H, ↓allT_nil, ↓allT_cons, ↓td_d, ↓td_nl, List.getD_cons_zero, List.getD_cons_succ, List.set_cons_zero, List.set_cons_succ, List.cons_append, List.nil_append, List.append_nil, List.map_cons, List.map_nil, List.length_cons, List.length_nil, List.all_cons, List.all_nil, Bool.and_self, Nat.reduceAdd, Nat.reduceSub, Nat.reduceMul, Nat.zero_add, List.replicate, evK_go, reduceIte, Nat.reduceEqDiff, Nat.reduceLT, and_self, Int.zero_add]
  refine OrH.r ?_
  refine callNil rfl rfl (appendSeq_spec s hs) ?_
  rintro r rfl
  simp (implicitDefEqProofs := false) (dsimp := false) only [↓optK_some, ↓rwK_mk_, ↓aw_ret, ↓Qseq_n, ↓ops_nil, ↓ops_cons, ↓eval_tmp, ↓put_some, ↓op_assign, ↓addRow_mk, ↓st_rw, ↓row_sz, ↓row_xs, ↓take_map, ↓res_H, ↓resH_row, ↓Qrow_r, ↓rowK_o, List.getD_cons_zero, List.getD_cons_succ, List.set_cons_zero, List.set_cons_succ, List.nil_append, List.length_nil, List.length_map, Bool.and_self, Nat.reduceAdd, Nat.reduceSub, Nat.reduceMul, evK_go, reduceIte, Nat.reduceEqDiff, Nat.reduceLT, and_self]
theorem collect_call (s : Nat) (pure : Bool) (σ : St) (dst : Option Tmp) (K : St → Prop) : CallH Tryd.prog 112 [.f (.func 111) [.q [U s]]] pure σ dst (.mk : Hid K) = OrH ((s < 2 ^ 64) ∧ (pure || Res.flat (.row 1 ((ptsI s).map (I .i64)))) = true ∧ evK ((σ.addRow ⟨1, (ptsI s).map (I .i64)⟩).put dst (.o σ.rw.length 0 (List.length ((ptsI s).map (I .i64))))) (.mk : Hid K)) (.mk : Hid (CallH Tryd.prog 112 [.f (.func 111) [.q [U s]]] pure σ dst (.mk : Hid K))) := CallH.eqR (fun h => collect_spec s h) pure σ dst K
theorem list_spec (s : Nat) (hs : s < 2 ^ 64) : FnR Tryd.prog 84 [U s] 1 ((ptsI s).map (I .i64)) := by
  refine FnR.go Tryd.func84 rfl rfl Tryd.results84 Tryd.ntmps84 ?_
  simp (implicitDefEqProofs := false) (dsimp := false) only [↓aw_seq, ↓aw_reg, ↓Qseq_n, ↓ops_nil, ↓ops_cons, ↓eval_tmp, ↓eval_nil, ↓eval_func, ↓put_some, ↓op_move, ↓op_assign, ↓op_call, isD_d, ↓fnK_f, ↓call_H, ↓callK_H, ↓allT_nil, ↓allT_cons, ↓td_d, List.getD_cons_zero, List.getD_cons_succ, List.set_cons_zero, List.set_cons_succ, List.cons_append, List.nil_append, List.append_nil, List.map_cons, List.map_nil, List.length_cons, List.length_nil, List.all_cons, List.all_nil, Bool.and_self, Nat.reduceAdd, Nat.reduceSub, Nat.reduceMul, Nat.zero_add, List.replicate, evK_go, reduceIte, Nat.reduceEqDiff, Nat.reduceLT, and_self, Int.zero_add]
  simp (implicitDefEqProofs := false) (dsimp := false) only [each_call, collect_call, hs, ↓optK_some, ↓rwK_mk_, ↓aw_ret, ↓Qseq_n, ↓ops_nil, ↓ops_cons, ↓eval_tmp, ↓eval_func, ↓put_some, ↓op_assign, ↓op_call, ↓orH_T, isD_d, ↓fnK_f, ↓call_H, ↓callK_H, ↓allT_nil, ↓allT_cons, ↓td_d, ↓addRow_mk, ↓st_rw, ↓row_sz, ↓row_xs, ↓take_map, ↓Qrow_r, ↓rowK_o, List.getD_cons_zero, List.getD_cons_succ, List.set_cons_zero, List.set_cons_succ, List.nil_append, List.append_nil, List.length_nil, List.length_map, List.all_cons, List.all_nil, Bool.and_self, Bool.true_or, Nat.reduceAdd, Nat.reduceSub, Nat.reduceMul, evK_go, reduceIte, Nat.reduceEqDiff, Nat.reduceLT, and_self]
theorem list_callD (s : Nat) (pure : Bool) (σ : St) (dst : Option Tmp) (K : St → Prop) : CallH Tryd.prog 84 [U s] pure σ dst (.mk : Hid K) = OrH ((s < 2 ^ 64) ∧ (pure || D.flat (.l ((ptsI s).map (I .i64)))) = true ∧ evK (σ.put dst (.d (.l ((ptsI s).map (I .i64))))) (.mk : Hid K)) (.mk : Hid (CallH Tryd.prog 84 [U s] pure σ dst (.mk : Hid K))) := CallH.eq (fun h => ((fun h => list_spec s h) h).data) pure σ dst K
end Go.Proofs

namespace Go.Proofs
open Go.Aw
set_option linter.unusedSimpArgs false
set_option maxRecDepth 10000
/-- A line as data. -/
def lnD (p : Int × Int) : D := .s [I .i64 p.1, I .i64 p.2]
def inB (n lo hi : Int) : Bool := decide (lo ≤ n) && decide (n ≤ hi)
theorem within_spec (n low high : Int) : FnD Tryd.prog 93 [I .i64 n, I .i64 low, I .i64 high] (Bo (inB n low high)) := by
  refine FnD.go Tryd.func93 rfl rfl Tryd.results93 Tryd.ntmps93 ?_
  simp (implicitDefEqProofs := false) (dsimp := false) only [↓gdK_t, ↓gval_mk, ↓gvL_zero, ↓gvL_succ, ↓aw_seq, ↓aw_reg, ↓Qseq_n, ↓ops_nil, ↓ops_cons, ↓ops_guard, ↓eval_tmp, ↓eval_bool, ↓put_some, ↓binE_i, ↓bi_geq, ↓op_move, ↓op_assign, ↓op_bin, ↓st_tm, List.getD_cons_zero, List.getD_cons_succ, List.set_cons_zero, List.set_cons_succ, List.cons_append, List.nil_append, List.map_cons, List.map_nil, List.length_cons, List.length_nil, Nat.reduceAdd, Nat.reduceSub, Nat.reduceMul, Nat.zero_add, List.replicate, evK_go, reduceIte, Nat.reduceEqDiff, Nat.reduceLT, Int.zero_add]
  refine cdK_dec (fun h => ?_) (fun h => ?_) <;> simp (implicitDefEqProofs := false) (dsimp := false) only [h, inB, ↓cdK_true, ↓cdK_false, ↓gdK_t, ↓gval_mk, ↓gvL_zero, ↓gvL_succ, ↓aw_ret, ↓Qseq_n, ↓Qret_r, ↓ops_nil, ↓ops_cons, ↓ops_guard, ↓eval_tmp, ↓eval_bool, ↓put_some, ↓bK_b, ↓binE_i, ↓bi_leq, ↓op_move, ↓op_assign, ↓op_pick, ↓op_bin, ↓td_d, ↓ret_1, ↓st_tm, List.getD_cons_zero, List.getD_cons_succ, List.set_cons_zero, List.set_cons_succ, Bool.true_and, Bool.false_and, Nat.reduceAdd, Nat.reduceSub, Nat.reduceMul, evK_go, reduceIte, decide_true, decide_false, Nat.reduceEqDiff, Nat.reduceLT, true_and]
theorem within_call (n low high : Int) (pure : Bool) (σ : St) (dst : Option Tmp) (K : St → Prop) : CallH Tryd.prog 93 [I .i64 n, I .i64 low, I .i64 high] pure σ dst (.mk : Hid K) = OrH ((pure || D.flat (Bo (inB n low high))) = true ∧ evK (σ.put dst (.d (Bo (inB n low high)))) (.mk : Hid K)) (.mk : Hid (CallH Tryd.prog 93 [I .i64 n, I .i64 low, I .i64 high] pure σ dst (.mk : Hid K))) := CallH.eq0 (within_spec n low high) pure σ dst K
theorem all_spec (l : List Int) (low high : Int) (hpre : l.length < 2 ^ 62) : FnD Tryd.prog 97 [.l (l.map (I .i64)), I .i64 low, I .i64 high] (Bo (l.all fun x => inB x low high)) := by
  refine FnD.go Tryd.func97 rfl rfl Tryd.results97 Tryd.ntmps97 ?_
  simp (implicitDefEqProofs := false) (dsimp := false) only [↓aw_seq, ↓aw_block, ↓aw_loop, ↓aw_reg, ↓Qseq_n, ↓ops_nil, ↓ops_cons, ↓eval_tmp, ↓eval_int, ↓eval_bool, ↓put_some, ↓lenK_l, ↓op_move, ↓op_assign, ↓op_len, ↓sl24, List.getD_cons_zero, List.getD_cons_succ, List.set_cons_zero, List.set_cons_succ, List.cons_append, List.nil_append, List.map_cons, List.map_nil, List.length_cons, List.length_nil, List.length_map, Nat.reduceAdd, Nat.reduceSub, Nat.reduceMul, Nat.zero_add, List.replicate, evK_go, reduceIte, Nat.reduceEqDiff, Nat.reduceLT, Int.zero_add]
  refine loopW (fun k : Nat => { tm := slots 21 [(1, .d (I .i64 low)), (2, .d (I .i64 high)), (9, .d (.l (l.map (I .i64)))), (10, .d (I .i64 l.length)), (11, .d (I .i64 k))], bx := [], rw := [] })
    (fun k => k ≤ l.length ∧ (l.take k).all (fun x => inB x low high) = true) (fun k => l.length - k) 0 ⟨by simp, by simp⟩ ?_ ?_
  · refine Wkn.of [] [] ?_
    simp (implicitDefEqProofs := false) (dsimp := false) only [List.set_cons_zero, List.set_cons_succ, Bool.and_self, Nat.reduceAdd, Nat.reduceSub, Nat.reduceMul, List.replicate, evK_go, reduceIte, Nat.reduceEqDiff, Nat.reduceLT, and_self, List.foldl_cons, List.foldl_nil, Int.cast_ofNat_Int, slots, wkL_nil, wkL_cons, wkB_nil, wkR_nil, wkV_j, wkV_d, frz_d, reduceCtorEq]
  · rintro k ⟨h1, h2⟩
    simp (implicitDefEqProofs := false) (dsimp := false) only [slots, ↓aw_cond, ↓aw_seq, ↓aw_reg, ↓Qseq_n, ↓ops_nil, ↓ops_cons, ↓eval_tmp, ↓put_some, ↓bK_b, ↓binE_i, ↓bi_lss, ↓op_bin, List.getD_cons_zero, List.getD_cons_succ, List.set_cons_zero, List.set_cons_succ, Nat.reduceAdd, Nat.reduceSub, Nat.reduceMul, List.replicate, evK_go, reduceIte, Nat.reduceEqDiff, Nat.reduceLT, List.foldl_cons, List.foldl_nil, Int.ofNat_lt]
    refine cdK_dec (fun h => ?_) (fun h => ?_)
    · simp (implicitDefEqProofs := false) (dsimp := false) only [h, within_call, ↓cdK_not, ↓atK_H, ↓atH_map, ↓aw_cond, ↓aw_seq, ↓aw_block, ↓aw_skip, ↓aw_reg, ↓Qseq_n, ↓ops_nil, ↓ops_cons, ↓eval_tmp, ↓eval_func, ↓put_some, ↓bK_b, ↓iK_i, ↓ldK_q, ↓iaK_l, ↓op_move, ↓op_assign, ↓op_load, ↓op_not, ↓op_ia, ↓op_call, isD_d, ↓fnK_f, ↓call_H, ↓callK_H, ↓allT_nil, ↓allT_cons, ↓td_d, ↓cells_c, ↓hd_cons, ↓ty3, ↓sl24, List.getD_cons_zero, List.getD_cons_succ, List.set_cons_zero, List.set_cons_succ, List.append_nil, List.length_cons, List.length_nil, List.all_cons, List.all_nil, Bool.true_and, Bool.and_self, Bool.true_or, Nat.reduceAdd, Nat.reduceSub, Nat.reduceMul, Nat.zero_add, Int.toNat_natCast, evK_go, reduceIte, decide_true, Nat.reduceEqDiff, Nat.reduceLT, and_self, true_and, Int.zero_add, Int.natCast_nonneg]
      refine OrH.l (OrH.l ?_)
      refine cdK_split (fun hb => ?_) (fun hb => ?_)
      · simp (implicitDefEqProofs := false) (dsimp := false) only [↓aw_skip, ↓aw_reg, ↓Qseq_n, ↓Qblk_n, ↓ops_nil, ↓ops_cons, ↓eval_tmp, ↓eval_int, ↓put_some, ↓binE_i, ↓bi_add, ↓in_i64, ↓op_move, ↓op_bin, List.getD_cons_zero, List.getD_cons_succ, List.set_cons_zero, List.set_cons_succ, Nat.reduceAdd, Nat.reduceSub, Nat.reduceMul, evK_go, reduceIte, Nat.reduceEqDiff, Nat.reduceLT]
        refine ⟨by omega, k + 1, ⟨by omega, ?_⟩, by omega, ?_⟩
        · rw [take_succ_getD h, List.all_append, h2]; simp (implicitDefEqProofs := false) (dsimp := false) only [List.all_cons, List.all_nil, hb, Bool.and_self]
        · refine Wkn.of [] [] ?_
          simp (implicitDefEqProofs := false) (dsimp := false) only [List.set_cons_zero, List.set_cons_succ, Bool.and_self, Nat.reduceAdd, Nat.reduceSub, Nat.reduceMul, List.replicate, evK_go, reduceIte, Nat.reduceEqDiff, Nat.reduceLT, and_self, List.foldl_cons, List.foldl_nil, Int.cast_ofNat_Int, Int.natCast_add, slots, wkL_nil, wkL_cons, wkB_nil, wkR_nil, wkV_j, wkV_d, frz_d, reduceCtorEq]
      · simp (implicitDefEqProofs := false) (dsimp := false) only [all_false (p := fun x => inB x low high) h hb, ↓aw_seq, ↓aw_ret, ↓aw_reg, ↓Qseq_n, ↓Qseq_r, ↓Qblk_r, ↓Qret_r, ↓ops_nil, ↓ops_cons, ↓eval_tmp, ↓eval_bool, ↓put_some, ↓op_assign, ↓td_d, ↓ret_1, List.getD_cons_zero, List.getD_cons_succ, List.set_cons_zero, List.set_cons_succ, Nat.reduceAdd, Nat.reduceSub, Nat.reduceMul, evK_go, reduceIte, Nat.reduceEqDiff, Nat.reduceLT]
    · simp (implicitDefEqProofs := false) (dsimp := false) only [↓aw_seq, ↓aw_exit, ↓aw_ret, ↓aw_reg, ↓Qseq_n, ↓Qseq_x, ↓Qblk_x, ↓Qret_r, ↓ops_nil, ↓ops_cons, ↓eval_tmp, ↓eval_bool, ↓put_some, ↓op_assign, ↓td_d, ↓ret_1, List.getD_cons_zero, List.getD_cons_succ, List.set_cons_zero, List.set_cons_succ, Nat.reduceAdd, Nat.reduceSub, Nat.reduceMul, evK_go, reduceIte, Nat.reduceEqDiff, Nat.reduceLT]
      obtain rfl : k = l.length := by omega
      rw [List.take_length] at h2
      rw [h2]
end Go.Proofs

namespace Go.Proofs
open Go.Aw
set_option linter.unusedSimpArgs false
set_option maxRecDepth 10000
def lineErr (n : Int) (p : Int × Int) : Int := if (inB p.1 0 (n - 1) && inB p.2 0 (n - 1)) = false then 1 else if p.1 = p.2 then 3 else 0
def firstErr (f : Int × Int → Int) : List (Int × Int) → Int
  | [] => 0
  | p :: l => if f p = 0 then firstErr f l else f p
def chk (n : Int) (l : List (Int × Int)) : Int := if inB n 1 8 = false then 1 else if 24 < l.length then 4 else firstErr (lineErr n) l
/-- An error as data. -/
def erD (e : Int) : D := if e = 0 then .c .nilIface else .c (.iface 108 (.int .i64 e))
theorem erD_1 : erD 1 = .c (.iface 108 (.int .i64 1)) := rfl
theorem erD_3 : erD 3 = .c (.iface 108 (.int .i64 3)) := rfl
theorem erD_4 : erD 4 = .c (.iface 108 (.int .i64 4)) := rfl
theorem erD_0 : erD 0 = .c .nilIface := rfl
theorem lnD_cells (p : Int × Int) : (lnD p).cells = [I .i64 p.1, I .i64 p.2] := rfl
theorem eval_nilI (σ : St) : St.eval σ (.const .nilIface) = .d (.c .nilIface) := rfl
theorem firstErr_take {f : Int × Int → Int} {l : List (Int × Int)} {k : Nat} (h : k < l.length) (h0 : firstErr f (l.take k) = 0) : (f (l.getD k default) = 0 → firstErr f (l.take (k + 1)) = 0) ∧ (f (l.getD k default) ≠ 0 → firstErr f l = f (l.getD k default)) := by
  induction l generalizing k with
  | nil => simp at h
  | cons p l ih =>
    cases k with
    | zero => 
      constructor
      · intro h1
        have h1 : f p = 0 := h1
        simp [firstErr, h1]
      · intro h1
        have h1 : f p ≠ 0 := h1
        show (if f p = 0 then firstErr f l else f p) = f p
        rw [if_neg h1]
    | succ k =>
      have e : firstErr f (p :: l.take k) = 0 := h0
      by_cases hp : f p = 0
      · have e2 : firstErr f (l.take k) = 0 := by simpa [firstErr, hp] using e
        obtain ⟨g1, g2⟩ := ih (by simpa using h) e2
        constructor
        · intro h1
          show firstErr f (p :: l.take (k + 1)) = 0
          simp (implicitDefEqProofs := false) (dsimp := false) only [firstErr, hp, if_true]
          exact g1 h1
        · intro h1
          show firstErr f (p :: l) = _
          simp (implicitDefEqProofs := false) (dsimp := false) only [firstErr, hp, if_true]
          exact g2 h1
      · simp [firstErr, hp] at e
theorem all2_spec (a b low high : Int) : FnD Tryd.prog 97 [.l [I .i64 a, I .i64 b], I .i64 low, I .i64 high] (Bo (inB a low high && inB b low high)) := by
  have h := all_spec [a, b] low high (by simp)
  simpa using h
theorem all2_call (a b low high : Int) (pure : Bool) (σ : St) (dst : Option Tmp) (K : St → Prop) : CallH Tryd.prog 97 [.l [I .i64 a, I .i64 b], I .i64 low, I .i64 high] pure σ dst (.mk : Hid K) = OrH ((pure || D.flat (Bo (inB a low high && inB b low high))) = true ∧ evK (σ.put dst (.d (Bo (inB a low high && inB b low high)))) (.mk : Hid K)) (.mk : Hid (CallH Tryd.prog 97 [.l [I .i64 a, I .i64 b], I .i64 low, I .i64 high] pure σ dst (.mk : Hid K))) := CallH.eq0 (all2_spec a b low high) pure σ dst K
theorem check_spec (n : Int) (l : List (Int × Int)) (hpre : l.length < 2 ^ 62) : FnD Tryd.prog 110 [I .i64 n, .l (l.map lnD)] (erD (chk n l)) := by
  refine FnD.go Tryd.func110 rfl rfl Tryd.results110 Tryd.ntmps110 ?_
  simp (implicitDefEqProofs := false) (dsimp := false) only [within_call, eval_nilI, ↓cdK_not, ↓aw_cond, ↓aw_seq, ↓aw_reg, ↓Qseq_n, ↓ops_nil, ↓ops_cons, ↓eval_tmp, ↓eval_int, ↓eval_func, ↓put_some, ↓bK_b, ↓op_move, ↓op_assign, ↓op_not, ↓op_call, isD_d, ↓fnK_f, ↓call_H, ↓callK_H, ↓allT_nil, ↓allT_cons, ↓td_d, List.getD_cons_zero, List.getD_cons_succ, List.set_cons_zero, List.set_cons_succ, List.cons_append, List.nil_append, List.append_nil, List.map_cons, List.map_nil, List.length_cons, List.length_nil, List.all_cons, List.all_nil, Bool.true_and, Bool.and_self, Bool.true_or, Nat.reduceAdd, Nat.reduceSub, Nat.reduceMul, Nat.zero_add, List.replicate, evK_go, reduceIte, Nat.reduceEqDiff, Nat.reduceLT, and_self, true_and, Int.zero_add]
  refine OrH.l (OrH.l (cdK_split (fun hn => ?_) (fun hn => ?_)))
  rotate_left
  · simp (implicitDefEqProofs := false) (dsimp := false) only [chk, hn, nc108, erD_1, ↓aw_seq, ↓aw_ret, ↓aw_reg, ↓Qseq_n, ↓Qseq_r, ↓Qret_r, ↓ops_nil, ↓ops_cons, ↓eval_tmp, ↓eval_int, ↓put_some, ↓vK_c, ↓op_assign, ↓op_iface, ↓td_d, ↓ret_1, ↓nc108, List.getD_cons_zero, List.getD_cons_succ, List.set_cons_zero, List.set_cons_succ, Bool.and_self, Nat.reduceAdd, Nat.reduceSub, Nat.reduceMul, evK_go, reduceIte, Bool.not_false, Nat.reduceEqDiff, Nat.reduceLT, and_self]
  simp (implicitDefEqProofs := false) (dsimp := false) only [↓aw_cond, ↓aw_seq, ↓aw_skip, ↓aw_reg, ↓Qseq_n, ↓ops_nil, ↓ops_cons, ↓eval_tmp, ↓eval_int, ↓put_some, ↓bK_b, ↓lenK_l, ↓binE_i, ↓bi_gtr, ↓op_move, ↓op_bin, ↓op_len, ↓sl22, List.getD_cons_zero, List.getD_cons_succ, List.set_cons_zero, List.set_cons_succ, List.length_map, Nat.reduceAdd, Nat.reduceSub, Nat.reduceMul, evK_go, reduceIte, Nat.reduceEqDiff, Nat.reduceLT]
  refine cdK_dec (fun h24 => ?_) (fun h24 => ?_)
  · have h24' : 24 < l.length := by omega
    simp (implicitDefEqProofs := false) (dsimp := false) only [chk, hn, h24', nc108, ↓aw_seq, ↓aw_ret, ↓aw_reg, ↓Qseq_n, ↓Qseq_r, ↓Qret_r, ↓ops_nil, ↓ops_cons, ↓eval_tmp, ↓eval_int, ↓put_some, ↓vK_c, ↓op_assign, ↓op_iface, ↓td_d, ↓ret_1, ↓nc108, List.getD_cons_zero, List.getD_cons_succ, List.set_cons_zero, List.set_cons_succ, Bool.true_and, Nat.reduceAdd, Nat.reduceSub, Nat.reduceMul, evK_go, reduceIte, Bool.not_true, Nat.reduceEqDiff, Nat.reduceLT, true_and]
    simp (implicitDefEqProofs := false) (dsimp := false) only [Bool.true_eq_false, reduceIte, erD_4]
  have h24' : ¬ 24 < l.length := by omega
  have hc : chk n l = firstErr (lineErr n) l := by simp [chk, hn, h24']
  rw [hc]
  simp (implicitDefEqProofs := false) (dsimp := false) only [↓aw_seq, ↓aw_block, ↓aw_skip, ↓aw_loop, ↓aw_reg, ↓Qseq_n, ↓ops_nil, ↓ops_cons, ↓eval_tmp, ↓eval_int, ↓put_some, ↓lenK_l, ↓op_move, ↓op_len, ↓sl22, List.getD_cons_zero, List.getD_cons_succ, List.set_cons_zero, List.set_cons_succ, List.length_map, Nat.reduceAdd, Nat.reduceSub, Nat.reduceMul, evK_go, reduceIte, Nat.reduceEqDiff, Nat.reduceLT]
  have hn' : 1 ≤ n ∧ n ≤ 8 := by simpa [inB] using hn
  refine loopW (fun k : Nat => { tm := slots 38 [(0, .d (I .i64 n)), (15, .d (.l (l.map lnD))), (16, .d (I .i64 l.length)), (17, .d (I .i64 k))], bx := [], rw := [] })
    (fun k => k ≤ l.length ∧ firstErr (lineErr n) (l.take k) = 0) (fun k => l.length - k) 0 ⟨by simp, by simp [firstErr]⟩ ?_ ?_
  · refine Wkn.of [] [] ?_
    simp (implicitDefEqProofs := false) (dsimp := false) only [List.set_cons_zero, List.set_cons_succ, Bool.and_self, Nat.reduceAdd, Nat.reduceSub, Nat.reduceMul, List.replicate, evK_go, reduceIte, Nat.reduceEqDiff, Nat.reduceLT, and_self, List.foldl_cons, List.foldl_nil, Int.cast_ofNat_Int, slots, wkL_nil, wkL_cons, wkB_nil, wkR_nil, wkV_j, wkV_d, frz_d, reduceCtorEq]
  · rintro k ⟨h1, h2⟩
    simp (implicitDefEqProofs := false) (dsimp := false) only [slots, ↓aw_cond, ↓aw_seq, ↓aw_reg, ↓Qseq_n, ↓ops_nil, ↓ops_cons, ↓eval_tmp, ↓put_some, ↓bK_b, ↓binE_i, ↓bi_lss, ↓op_bin, List.getD_cons_zero, List.getD_cons_succ, List.set_cons_zero, List.set_cons_succ, Nat.reduceAdd, Nat.reduceSub, Nat.reduceMul, List.replicate, evK_go, reduceIte, Nat.reduceEqDiff, Nat.reduceLT, List.foldl_cons, List.foldl_nil, Int.ofNat_lt]
    refine cdK_dec (fun h => ?_) (fun h => ?_)
    · obtain ⟨g1, g2⟩ := firstErr_take h h2
      simp (implicitDefEqProofs := false) (dsimp := false) only [h, lnD, all2_call, ↓cdK_not, ↓atK_H, ↓atH_map, ↓nthK_H, ↓nthH_zero, ↓nthH_succ, ↓aw_cond, ↓aw_seq, ↓aw_block, ↓aw_skip, ↓aw_reg, ↓Qseq_n, ↓ops_nil, ↓ops_cons, ↓eval_tmp, ↓eval_int, ↓eval_func, ↓put_some, ↓put_none, ↓bK_b, ↓iK_i, ↓dK_d, ↓binE_i, ↓bi_sub, ↓in_i64, ↓ldK_q, ↓ldK_p, ↓faK_p, ↓iaK_l, ↓op_move, ↓op_load, ↓op_bin, ↓op_not, ↓op_fa, ↓op_ia, ↓op_call, ↓op_alloc, ↓op_store, isD_d, ↓fnK_f, ↓call_H, ↓callK_H, ↓allT_nil, ↓allT_cons, ↓allD_nil, ↓allD_cons, ↓td_d, ↓addBox_mk, ↓setBox_mk, ↓st_bx, ↓cells_c, ↓cells_s, ↓vcells_s, ↓one_i, ↓vone_d, constV_a, ↓st_p, ↓bs_, ↓op_bs, ↓bsL_f, ↓stored_mk, ↓sl_nil, ↓sl_cons, ↓sT_move, ↓sT_load, ↓sT_bin, ↓sT_un, ↓sT_fa, ↓sT_bs, ↓sT_call, ↓vsz_int, ↓inO_2, ↓fm_nil, ↓fm_cons, ↓ty3, ↓zb3, ↓sl22, ↓sl24, ↓ty41, ↓zb41, ↓fd41_0, ↓fd41_1, List.getD_cons_zero, List.getD_cons_succ, List.set_cons_zero, List.set_cons_succ, List.nil_append, List.append_nil, List.map_cons, List.map_nil, List.length_cons, List.length_nil, List.all_cons, List.all_nil, Bool.true_and, Bool.and_self, Bool.true_or, Bool.or_false, Nat.reduceAdd, Nat.reduceSub, Nat.reduceMul, Nat.zero_add, Nat.add_zero, Int.toNat_natCast, evK_go, reduceIte, decide_true, Nat.reduceEqDiff, Nat.reduceLT, and_self, true_and, Int.zero_add, List.take_succ_cons, List.take_nil, Int.natCast_nonneg]
      refine ⟨by omega, by omega, by omega, OrH.l (OrH.l (cdK_split (fun hb => ?_) (fun hb => ?_)))⟩
      · simp (implicitDefEqProofs := false) (dsimp := false) only [↓nthK_H, ↓nthH_zero, ↓nthH_succ, ↓aw_cond, ↓aw_seq, ↓aw_skip, ↓aw_reg, ↓Qseq_n, ↓ops_nil, ↓ops_cons, ↓eval_tmp, ↓put_some, ↓bK_b, ↓binE_i, ↓bi_eql, ↓ldK_p, ↓faK_p, ↓op_load, ↓op_bin, ↓op_fa, ↓vcells_s, ↓ty3, ↓fd41_0, ↓fd41_1, List.getD_cons_zero, List.getD_cons_succ, List.set_cons_zero, List.set_cons_succ, List.map_cons, List.map_nil, Bool.true_and, Nat.reduceAdd, Nat.reduceSub, Nat.reduceMul, Nat.zero_add, Nat.add_zero, evK_go, reduceIte, Nat.reduceEqDiff, Nat.reduceLT, true_and, Int.zero_add]
        refine cdK_dec (fun he => ?_) (fun he => ?_)
        · have e : lineErr n (l.getD k default) = 3 := by unfold lineErr; rw [hb, if_neg (by decide), if_pos he]
          rw [g2 (by rw [e]; decide), e]
          simp (implicitDefEqProofs := false) (dsimp := false) only [nc108, erD_3, ↓aw_seq, ↓aw_ret, ↓aw_reg, ↓Qseq_n, ↓Qseq_r, ↓Qblk_r, ↓Qret_r, ↓ops_nil, ↓ops_cons, ↓eval_tmp, ↓eval_int, ↓put_some, ↓vK_c, ↓op_assign, ↓op_iface, ↓td_d, ↓ret_1, ↓nc108, List.getD_cons_zero, List.getD_cons_succ, List.set_cons_zero, List.set_cons_succ, Bool.and_self, Nat.reduceAdd, Nat.reduceSub, Nat.reduceMul, evK_go, reduceIte, Nat.reduceEqDiff, Nat.reduceLT, and_self]
        · have e : lineErr n (l.getD k default) = 0 := by simp (implicitDefEqProofs := false) (dsimp := false) only [lineErr, hb, he, reduceIte, Bool.true_eq_false]
          simp (implicitDefEqProofs := false) (dsimp := false) only [↓aw_skip, ↓aw_reg, ↓Qseq_n, ↓Qblk_n, ↓ops_nil, ↓ops_cons, ↓eval_tmp, ↓eval_int, ↓put_some, ↓binE_i, ↓bi_add, ↓in_i64, ↓op_move, ↓op_bin, List.getD_cons_zero, List.getD_cons_succ, List.set_cons_zero, List.set_cons_succ, Nat.reduceAdd, Nat.reduceSub, Nat.reduceMul, evK_go, reduceIte, Nat.reduceEqDiff, Nat.reduceLT]
          refine ⟨by omega, k + 1, ⟨by omega, g1 e⟩, by omega, ?_⟩
          refine Wkn.of [] [] ?_
          simp (implicitDefEqProofs := false) (dsimp := false) only [List.set_cons_zero, List.set_cons_succ, Bool.and_self, Nat.reduceAdd, Nat.reduceSub, Nat.reduceMul, List.replicate, evK_go, reduceIte, Nat.reduceEqDiff, Nat.reduceLT, and_self, List.foldl_cons, List.foldl_nil, Int.cast_ofNat_Int, Int.natCast_add, slots, wkL_nil, wkL_cons, wkB_nil, wkR_nil, wkV_j, wkV_d, frz_d, reduceCtorEq]
      · have e : lineErr n (l.getD k default) = 1 := by simp (implicitDefEqProofs := false) (dsimp := false) only [lineErr, hb, reduceIte]
        rw [g2 (by rw [e]; decide), e]
        simp (implicitDefEqProofs := false) (dsimp := false) only [nc108, erD_1, ↓aw_seq, ↓aw_ret, ↓aw_reg, ↓Qseq_n, ↓Qseq_r, ↓Qblk_r, ↓Qret_r, ↓ops_nil, ↓ops_cons, ↓eval_tmp, ↓eval_int, ↓put_some, ↓vK_c, ↓op_assign, ↓op_iface, ↓td_d, ↓ret_1, ↓nc108, List.getD_cons_zero, List.getD_cons_succ, List.set_cons_zero, List.set_cons_succ, Bool.and_self, Nat.reduceAdd, Nat.reduceSub, Nat.reduceMul, evK_go, reduceIte, Nat.reduceEqDiff, Nat.reduceLT, and_self]
    · obtain rfl : k = l.length := by omega
      rw [List.take_length] at h2
      rw [h2]
      simp (implicitDefEqProofs := false) (dsimp := false) only [eval_nilI, erD_0, ↓aw_seq, ↓aw_exit, ↓aw_ret, ↓aw_reg, ↓Qseq_n, ↓Qseq_x, ↓Qblk_x, ↓Qret_r, ↓ops_nil, ↓ops_cons, ↓eval_tmp, ↓put_some, ↓op_assign, ↓td_d, ↓ret_1, List.getD_cons_zero, List.getD_cons_succ, List.set_cons_zero, List.set_cons_succ, Nat.reduceAdd, Nat.reduceSub, Nat.reduceMul, evK_go, reduceIte, decide_false, Nat.reduceEqDiff, Nat.reduceLT, Nat.lt_irrefl]
theorem check_call (n : Int) (l : List (Int × Int)) (pure : Bool) (σ : St) (dst : Option Tmp) (K : St → Prop) : CallH Tryd.prog 110 [I .i64 n, .l (l.map lnD)] pure σ dst (.mk : Hid K) = OrH ((l.length < 2 ^ 62) ∧ (pure || D.flat (erD (chk n l))) = true ∧ evK (σ.put dst (.d (erD (chk n l)))) (.mk : Hid K)) (.mk : Hid (CallH Tryd.prog 110 [I .i64 n, .l (l.map lnD)] pure σ dst (.mk : Hid K))) := CallH.eq (check_spec n l) pure σ dst K
end Go.Proofs

namespace Go.Proofs
open Go.RowKit Go.Extern.Stop Go.Stop Go.Extern

/-! ### CLOSED FACTS ON THE MODEL's ENTRIES FOR internal/reflectlite, at this program's types: 25: *p.E · 27: **p.E · 23: error · 45: reflectlite's rtype · 1: how many package-level variables the dump has -/
theorem AsE.valueOf27 (t : Addr) (w : World) : (ReflectliteValue.unpack (.iface 126 (.pointer (some t)))).run Tryd.prog w
    = .ok (.agg #[.pointer (some ⟨1, 126, none⟩), .pointer (some ⟨w.heap.size, 0, none⟩), .int .u64 150]) (w.alloc (.cells #[.pointer (some t)] 126)) := by kernel_rfl
theorem AsE.type27 (a : Addr) (w : World) : (ReflectliteValue.methodAny (ReflectliteValue.valueError "reflectlite.Value.Type" 0) (fun t _ _ _ => ReflectliteType.toType t) #[.agg #[.pointer (some ⟨1, 126, none⟩), .pointer (some a), .int .u64 150]]).run Tryd.prog w
    = .ok (.iface 142 (.agg #[.pointer (some ⟨1, 126, none⟩)])) w := by kernel_rfl
theorem AsE.methodKind (h : Value) (w : World) : (Go.method 284 142 (.agg #[h]) "Kind").run Tryd.prog w = .ok (138, h) w := by kernel_rfl
theorem AsE.kind27 (w : World) : ((ReflectliteType.abiMethod fun t => (fun a : Nat => Value.int IntKind.u8 (a : Int)) <$> Rtype.kind t) #[.pointer (some ⟨1, 126, none⟩)]).run Tryd.prog w = .ok (.int .u8 22) w := by kernel_rfl
theorem AsE.kind25 (w : World) : ((ReflectliteType.abiMethod fun t => (fun a : Nat => Value.int IntKind.u8 (a : Int)) <$> Rtype.kind t) #[.pointer (some ⟨1, 108, none⟩)]).run Tryd.prog w = .ok (.int .u8 2) w := by kernel_rfl

/-! ### THE ENTRIES THAT READ OR WRITE MEMORY: laws with a premise on the cell (after Derived/Lib/ReflectliteSlice.lean's manner: each unfolding a lemma of its own, by rfl) -/
theorem rlm (z : Sem Value) (f : TypeId → Addr → Nat → Nat → Sem Value) (v : Value) :
    ReflectliteValue.method z f #[v] = (do match ← ReflectliteValue.parts v with | none => z | some (t, a, fl) => f t a fl (fl % 32)) := rfl
theorem AsE.parts27 (a : Addr) (w : World) : (ReflectliteValue.parts (.agg #[.pointer (some ⟨1, 126, none⟩), .pointer (some a), .int .u64 150])).run Tryd.prog w = .ok (some (126, a, 150)) w := by kernel_rfl
/-- (Value).IsNil at the Value of a **p.E that is not nil. -/
theorem AsE.isNil27 (a p : Addr) (W : World) (ha : W.cell? a = some (.pointer (some p))) :
    (ReflectliteValue.method (ReflectliteValue.valueError "reflectlite.Value.IsNil" 0) ReflectliteValue.isNil #[.agg #[.pointer (some ⟨1, 126, none⟩), .pointer (some a), .int .u64 150]]).run Tryd.prog W = .ok (.bool false) W := by
  rw [rlm]
  simp only [Sem.run_bind, AsE.parts27, Result.andThen]
  simp [ReflectliteValue.isNil, loadVar, isAgg, underlying, Tryd.underlying126, ha, Result.andThen]

theorem AsE.methodElem (h : Value) (w : World) : (Go.method 284 142 (.agg #[h]) "Elem").run Tryd.prog w = .ok (148, .agg #[h]) w := by kernel_rfl
theorem AsE.methodImplements (h : Value) (w : World) : (Go.method 284 142 (.agg #[h]) "Implements").run Tryd.prog w = .ok (149, .agg #[h]) w := by kernel_rfl
theorem AsE.methodAssignableTo (h : Value) (w : World) : (Go.method 284 142 (.agg #[h]) "AssignableTo").run Tryd.prog w = .ok (146, .agg #[h]) w := by kernel_rfl
theorem AsE.elem27 (w : World) : (ReflectliteType.method ReflectliteType.elem #[.agg #[.pointer (some ⟨1, 126, none⟩)]]).run Tryd.prog w = .ok (.iface 142 (.agg #[.pointer (some ⟨1, 108, none⟩)])) w := by kernel_rfl
theorem AsE.implements25 (w : World) : (ReflectliteType.relation "Implements" ReflectliteType.implements_ #[.agg #[.pointer (some ⟨1, 108, none⟩)], .iface 142 (.agg #[.pointer (some ⟨1, 29, none⟩)])]).run Tryd.prog w = .ok (.bool true) w := by kernel_rfl
theorem AsE.typeOf25 (v : Value) (w : World) : (ReflectliteType.typeOf #[.iface 108 v]).run Tryd.prog w = .ok (.iface 142 (.agg #[.pointer (some ⟨1, 108, none⟩)])) w := by kernel_rfl
theorem AsE.assignable25 (w : World) : (ReflectliteType.relation "AssignableTo" ReflectliteType.assignableTo #[.agg #[.pointer (some ⟨1, 108, none⟩)], .iface 142 (.agg #[.pointer (some ⟨1, 108, none⟩)])]).run Tryd.prog w = .ok (.bool true) w := by kernel_rfl
theorem AsE.valueOf25 (e : Int) (w : World) : (ReflectliteValue.unpack (.iface 108 (.int .i64 e))).run Tryd.prog w
    = .ok (.agg #[.pointer (some ⟨1, 108, none⟩), .pointer (some ⟨w.heap.size, 0, none⟩), .int .u64 130]) (w.alloc (.cells #[.int .i64 e] 108)) := by kernel_rfl

theorem AsE.elemOf27 (w : World) : (Rtype.elem? 126).run Tryd.prog w = .ok (some 108) w := by kernel_rfl
theorem AsE.mk25 (p : Addr) (w : World) : (ReflectliteValue.mk 108 p ReflectliteValue.flagAddr).run Tryd.prog w = .ok (.agg #[.pointer (some ⟨1, 108, none⟩), .pointer (some p), .int .u64 386]) w := by kernel_rfl
/-- (Value).Elem at the Value of a **p.E that is not nil: the Value of the *p.E variable that it points to, addressable. -/
theorem AsE.elemV27 (a p : Addr) (W : World) (ha : W.cell? a = some (.pointer (some p))) :
    (ReflectliteValue.method (ReflectliteValue.valueError "reflectlite.Value.Elem" 0) ReflectliteValue.elem #[.agg #[.pointer (some ⟨1, 126, none⟩), .pointer (some a), .int .u64 150]]).run Tryd.prog W
      = .ok (.agg #[.pointer (some ⟨1, 108, none⟩), .pointer (some p), .int .u64 386]) W := by
  rw [rlm]
  simp only [Sem.run_bind, AsE.parts27, Result.andThen]
  simp [ReflectliteValue.elem, loadVar, isAgg, underlying, Tryd.underlying126, ha, Result.andThen, AsE.elemOf27, AsE.mk25]
theorem rls (v x : Value) : ReflectliteValue.set #[v, x] = (do
    let (some (dst, a, fl), some (src, b, _)) := (← ReflectliteValue.parts v, ← ReflectliteValue.parts x)
      | unsupported (.noEntry "extern/(internal/reflectlite.Value).Set.zeroValue")
    if fl / ReflectliteValue.flagAddr % 2 == 0 then unsupported (.noEntry "extern/(internal/reflectlite.Value).Set.unaddressable")
    let val ← loadVar src b
    if ← Rtype.directlyAssignable dst src then storeVar dst a val
    else if ← Rtype.implements dst src then
      if (← Rtype.kind src) == 20 then
        match val with
        | .nilIface => unsupported (.noEntry "extern/reflectlite: a nil value of one interface type handed on as a value of another")
        | _ => storeVar dst a val
      else storeVar dst a (.iface src val)
    else panicString ("reflectlite.Set: value of type " ++ (← Rtype.spelt src) ++ " is not assignable to type " ++ (← Rtype.spelt dst))
    pure (.tuple #[])) := rfl
theorem AsE.parts25a (a : Addr) (w : World) : (ReflectliteValue.parts (.agg #[.pointer (some ⟨1, 108, none⟩), .pointer (some a), .int .u64 386])).run Tryd.prog w = .ok (some (108, a, 386)) w := by kernel_rfl
theorem AsE.parts25 (a : Addr) (w : World) : (ReflectliteValue.parts (.agg #[.pointer (some ⟨1, 108, none⟩), .pointer (some a), .int .u64 130])).run Tryd.prog w = .ok (some (108, a, 130)) w := by kernel_rfl
theorem AsE.direct25 (w : World) : (Rtype.directlyAssignable 108 108).run Tryd.prog w = .ok true w := by kernel_rfl
/-- (Value).Set: the *p.E variable at 'ta' gets what the Value's own variable 'b' holds. -/
theorem AsE.set25 (ta b : Addr) (e : Int) (old : Value) (W : World) (hb : W.cell? b = some (.int .i64 e)) (ht : W.cell? ta = some old) (hf : W.frozen? ta = false) :
    (ReflectliteValue.set #[.agg #[.pointer (some ⟨1, 108, none⟩), .pointer (some ta), .int .u64 386], .agg #[.pointer (some ⟨1, 108, none⟩), .pointer (some b), .int .u64 130]]).run Tryd.prog W
      = .ok (.tuple #[]) (W.setCell ta (.int .i64 e)) := by
  rw [rls]
  simp only [Sem.run_bind, AsE.parts25a, AsE.parts25, Result.andThen]
  simp [ReflectliteValue.flagAddr, loadVar, isAgg, underlying, Tryd.underlying108, hb, Result.andThen, AsE.direct25, storeVar, Value.cells, storeCells, Addr.add]
  rw [run_store Tryd.prog W ta _ _ (by rfl)]
  simp [ht, hf]

set_option maxHeartbeats 4000000 in
theorem as_hit (e : Int) (t : Addr) (old : Value) (w : World) (hg : w.cell? ⟨0, 0, none⟩ = some (.iface 142 (.agg #[.pointer (some ⟨1, 29, none⟩)]))) (ht0 : w.cell? t = some old) (hf0 : w.frozen? t = false) :
    Calls Tryd.prog 113 #[.iface 108 (.int .i64 e), .iface 126 (.pointer (some t))] w fun ev w' => ev = .returned (.bool true) ∧ w' = ((((w.alloc (.cells #[.pointer (some t)] 126)).alloc (.cells #[.pointer (some ⟨1, 126, none⟩), .pointer (some ⟨w.heap.size, 0, none⟩), .int .u64 150] 132)).alloc (.cells #[.pointer (some ⟨1, 126, none⟩), .pointer (some ⟨w.heap.size, 0, none⟩), .int .u64 150] 132)).alloc (.cells #[.int .i64 e] 108)).setCell t (.int .i64 e) := by
  have h6 := @run_callFunc_extern Tryd.prog 117 _ (fun args => ReflectliteValue.unpack (args.getD 0 (.tuple #[]))) Tryd.func117 (by kernel_rfl) (by kernel_rfl) (by kernel_rfl) (by kernel_rfl)
  have h7 := @run_callFunc_extern Tryd.prog 118 _ (ReflectliteValue.methodAny (ReflectliteValue.valueError "reflectlite.Value.Type" 0) (fun t _ _ _ => ReflectliteType.toType t)) Tryd.func118 (by kernel_rfl) (by kernel_rfl) (by kernel_rfl) (by kernel_rfl)
  have h8 := @run_callFunc_extern Tryd.prog 119 _ (ReflectliteValue.method (ReflectliteValue.valueError "reflectlite.Value.IsNil" 0) ReflectliteValue.isNil) Tryd.func119 (by kernel_rfl) (by kernel_rfl) (by kernel_rfl) (by kernel_rfl)
  have h27 := @run_callFunc_extern Tryd.prog 138 _ (ReflectliteType.abiMethod fun t => do pure (.int .u8 (← Rtype.kind t))) Tryd.func138 (by kernel_rfl) (by kernel_rfl) (by kernel_rfl) (by kernel_rfl)
  have h37 := @run_callFunc_extern Tryd.prog 148 _ (ReflectliteType.method ReflectliteType.elem) Tryd.func148 (by kernel_rfl) (by kernel_rfl) (by kernel_rfl) (by kernel_rfl)
  have h38 := @run_callFunc_extern Tryd.prog 149 _ (ReflectliteType.relation "Implements" ReflectliteType.implements_) Tryd.func149 (by kernel_rfl) (by kernel_rfl) (by kernel_rfl) (by kernel_rfl)
  have h10 := @run_callFunc_extern Tryd.prog 121 _ ReflectliteType.typeOf Tryd.func121 (by kernel_rfl) (by kernel_rfl) (by kernel_rfl) (by kernel_rfl)
  have h35 := @run_callFunc_extern Tryd.prog 146 _ (ReflectliteType.relation "AssignableTo" ReflectliteType.assignableTo) Tryd.func146 (by kernel_rfl) (by kernel_rfl) (by kernel_rfl) (by kernel_rfl)
  have h11 := @run_callFunc_extern Tryd.prog 122 _ (ReflectliteValue.method (ReflectliteValue.valueError "reflectlite.Value.Elem" 0) ReflectliteValue.elem) Tryd.func122 (by kernel_rfl) (by kernel_rfl) (by kernel_rfl) (by kernel_rfl)
  have h12 := @run_callFunc_extern Tryd.prog 123 _ ReflectliteValue.set Tryd.func123 (by kernel_rfl) (by kernel_rfl) (by kernel_rfl) (by kernel_rfl)
  have tO := AsE.typeOf25
  have mA := AsE.methodAssignableTo
  have a25 := AsE.assignable25
  have v25 := AsE.valueOf25
  have f6 := AsE.valueOf27
  have f7 := AsE.type27
  have mK := AsE.methodKind
  have mE := AsE.methodElem
  have mI := AsE.methodImplements
  have k27 := AsE.kind27
  have k25 := AsE.kind25
  have e27 := AsE.elem27
  have i25 := AsE.implements25
  have n8 := AsE.isNil27 ⟨w.heap.size, 0, none⟩ t ((w.alloc (.cells #[.pointer (some t)] 126)).alloc (.cells #[.pointer (some ⟨1, 126, none⟩), .pointer (some ⟨w.heap.size, 0, none⟩), .int .u64 150] 132)) (by simp)
  have hlt : 0 < w.heap.size := by
    rcases Nat.eq_zero_or_pos w.heap.size with h0 | h
    · simp [World.cell?, h0] at hg
    · exact h
  have hg2 : ((w.alloc (.cells #[.pointer (some t)] 126)).alloc (.cells #[.pointer (some ⟨1, 126, none⟩), .pointer (some ⟨w.heap.size, 0, none⟩), .int .u64 150] 132)).cell? ⟨0, 0, none⟩ = some (.iface 142 (.agg #[.pointer (some ⟨1, 29, none⟩)])) := by
    rw [World.cell?_alloc_lt _ _ ⟨0, 0, none⟩ (by simp), World.cell?_alloc_lt _ _ ⟨0, 0, none⟩ hlt]; exact hg
  have htl : t.block < w.heap.size := by
    rcases Nat.lt_or_ge t.block w.heap.size with h | h
    · exact h
    · simp [World.cell?, Array.getElem?_eq_none h] at ht0
  have el := AsE.elemV27 ⟨w.heap.size, 0, none⟩ t (((w.alloc (.cells #[.pointer (some t)] 126)).alloc (.cells #[.pointer (some ⟨1, 126, none⟩), .pointer (some ⟨w.heap.size, 0, none⟩), .int .u64 150] 132)).alloc (.cells #[.pointer (some ⟨1, 126, none⟩), .pointer (some ⟨w.heap.size, 0, none⟩), .int .u64 150] 132)) (by rw [World.cell?_alloc_lt _ _ ⟨w.heap.size, 0, none⟩ (by simp; omega)]; simp)
  have st := AsE.set25 t ⟨w.heap.size + 1 + 1 + 1, 0, none⟩ e old ((((w.alloc (.cells #[.pointer (some t)] 126)).alloc (.cells #[.pointer (some ⟨1, 126, none⟩), .pointer (some ⟨w.heap.size, 0, none⟩), .int .u64 150] 132)).alloc (.cells #[.pointer (some ⟨1, 126, none⟩), .pointer (some ⟨w.heap.size, 0, none⟩), .int .u64 150] 132)).alloc (.cells #[.int .i64 e] 108))
    (by rw [World.cell?_alloc_at _ _ _ _ (by simp)]; rfl)
    (by rw [World.cell?_alloc_lt _ _ t (by simp; omega), World.cell?_alloc_lt _ _ t (by simp; omega), World.cell?_alloc_lt _ _ t (by simp; omega), World.cell?_alloc_lt _ _ t htl]; exact ht0)
    (by rw [World.frozen?_alloc_old _ _ t (by simp; omega), World.frozen?_alloc_old _ _ t (by simp; omega), World.frozen?_alloc_old _ _ t (by simp; omega), World.frozen?_alloc_old _ _ t (Nat.ne_of_lt htl)]; exact hf0)
  go_enter Tryd.func113, Tryd.ntmps113
  go_wp2
  refine wp_loop_rounds 1 ?_
  rw [rounds_succ]
  go_wp2
  go_ret
  exact ⟨rfl, rfl⟩
end Go.Proofs

namespace Go.Proofs
open Go.Aw
set_option linter.unusedSimpArgs false
set_option maxRecDepth 10000
/-- A line of points as data. -/
def lnN (p : Nat × Nat) : D := .s [I .i64 (p.1 : Int), I .i64 (p.2 : Int)]
theorem lnN_cells (p : Nat × Nat) : (lnN p).cells = [I .i64 (p.1 : Int), I .i64 (p.2 : Int)] := rfl
theorem out_spec (n : Nat) (l : List (Nat × Nat)) (hpre : n ≤ 64 ∧ l.length < 2 ^ 62 ∧ ∀ p ∈ l, p.1 < n ∧ p.2 < 64) : FnR Tryd.prog 81 [I .i64 (n : Int), .l (l.map lnN)] 1 ((outS n l).map U) := by
  obtain ⟨hn, hl, hp⟩ := hpre
  refine FnR.go Tryd.func81 rfl rfl Tryd.results81 Tryd.ntmps81 ?_
  simp (implicitDefEqProofs := false) (dsimp := false) only [↓aw_seq, ↓aw_block, ↓aw_loop, ↓aw_reg, ↓Qseq_n, ↓ops_nil, ↓ops_cons, ↓eval_tmp, ↓eval_int, ↓eval_nil, ↓put_some, ↓iK_i, ↓dK_d, ↓lenK_l, ↓op_move, ↓op_assign, ↓op_len, ↓op_make, ↓addRow_mk, ↓st_rw, ↓cells_c, ↓one_i, constV_i, ↓mk_, ↓vsz_int, ↓sl22, ↓sl99, ↓ty102, ↓zb102, List.getD_cons_zero, List.getD_cons_succ, List.set_cons_zero, List.set_cons_succ, List.cons_append, List.nil_append, List.map_cons, List.map_nil, List.length_cons, List.length_nil, List.length_map, List.all_cons, List.all_nil, Bool.and_true, Bool.true_and, Bool.and_self, Nat.reduceAdd, Nat.reduceSub, Nat.reduceMul, Nat.zero_add, Int.toNat_natCast, List.replicate, evK_go, reduceIte, Nat.reduceEqDiff, Nat.reduceLT, and_self, true_and, and_true, Int.zero_add, Int.natCast_nonneg]
  refine ⟨by omega, ?_⟩
  refine loopW (fun k : Nat => { tm := slots 30 [(5, .o 0 0 n), (10, .d (.l (l.map lnN))), (11, .d (I .i64 l.length)), (12, .d (I .i64 k))], bx := [], rw := [some ⟨1, (outS n (l.take k)).map U⟩] })
    (fun k => k ≤ l.length) (fun k => l.length - k) 0 (by simp) ?_ ?_
  · refine Wkn.of [] [some 0] ?_
    simp (implicitDefEqProofs := false) (dsimp := false) only [List.getD_cons_zero, List.set_cons_zero, List.set_cons_succ, Bool.and_true, Bool.true_and, Bool.and_self, Nat.reduceAdd, Nat.reduceSub, Nat.reduceMul, List.replicate, evK_go, reduceIte, Nat.reduceEqDiff, Nat.reduceLT, and_self, true_and, and_true, List.take_zero, List.foldl_cons, List.foldl_nil, Int.cast_ofNat_Int, slots, wkL_nil, wkL_cons, wkB_nil, wkR_nil, wkR_some, wkV_j, wkV_d, wkV_o, frz_d, oK_zs, reduceCtorEq, Option.some.injEq]
    simp [outS, U]
  · rintro k h1
    simp (implicitDefEqProofs := false) (dsimp := false) only [slots, ↓aw_cond, ↓aw_seq, ↓aw_reg, ↓Qseq_n, ↓ops_nil, ↓ops_cons, ↓eval_tmp, ↓put_some, ↓bK_b, ↓binE_i, ↓bi_lss, ↓op_bin, List.getD_cons_zero, List.getD_cons_succ, List.set_cons_zero, List.set_cons_succ, Nat.reduceAdd, Nat.reduceSub, Nat.reduceMul, List.replicate, evK_go, reduceIte, Nat.reduceEqDiff, Nat.reduceLT, List.foldl_cons, List.foldl_nil, Int.ofNat_lt]
    refine cdK_dec (fun h => ?_) (fun h => ?_)
    · simp (implicitDefEqProofs := false) (dsimp := false) only [h, lnN, with_callQ, ↓optK_some, ↓rwK_mk_, ↓atK_H, ↓atH_map, ↓nthK_H, ↓nthH_zero, ↓nthH_succ, ↓aw_seq, ↓aw_block, ↓aw_skip, ↓aw_reg, ↓aw_draw, ↓Qseq_n, ↓Qblk_n, ↓ops_nil, ↓ops_cons, ↓eval_tmp, ↓eval_int, ↓eval_func, ↓put_some, ↓put_none, ↓iK_i, ↓dK_d, ↓ev_move, ↓ev_load, ↓ev_fa, ↓ev_ia, ↓binE_i, ↓bi_add, ↓in_i64, ↓ldK_q, ↓ldK_p, ↓ldK_e, ↓faK_p, ↓iaK_l, ↓iaK_o, ↓op_move, ↓op_load, ↓op_bin, ↓op_ia, ↓op_alloc, ↓op_store, isD_d, ↓fnK_f, ↓callKQ_H, ↓allT_nil, ↓allT_cons, ↓td_d, ↓draw_H, ↓h_cons, ↓ldH_t, ↓ldH_n, ↓q_call, ↓q_move, ↓q_load, ↓q_fa, ↓q_ia, ↓il_move, ↓il_load, ↓il_fa, ↓il_ia, ↓il_call, ↓il_store, ↓addBox_mk, ↓setBox_mk, ↓setRow_mk, ↓st_bx, ↓row_sz, ↓row_xs, ↓cells_c, ↓cells_s, ↓vcells_s, ↓one_i, ↓vone_d, constV_a, ↓st_p, ↓st_e, ↓ty3, ↓sl22, ↓ty41, ↓zb41, ↓fd41_0, ↓fd41_1, ↓sl99, ↓ty102, List.getD_cons_zero, List.getD_cons_succ, List.set_cons_zero, List.set_cons_succ, List.nil_append, List.append_nil, List.map_cons, List.map_nil, List.length_cons, List.length_nil, List.all_cons, List.all_nil, Bool.true_and, Bool.and_self, Bool.true_or, Nat.reduceAdd, Nat.reduceSub, Nat.reduceMul, Nat.zero_add, Nat.add_zero, Int.toNat_natCast, evK_go, reduceIte, decide_true, Nat.reduceEqDiff, Nat.reduceLT, and_self, true_and, Int.zero_add, List.take_succ_cons, List.take_nil, Int.ofNat_lt, Int.natCast_nonneg]
      obtain ⟨h2, h3⟩ := hp _ (getD_mem h)
      have h4 := outS_len n (l.take k)
      have h5 : (outS n (l.take k)).getD (l.getD k default).1 default < 2 ^ 64 := outS_lt n (l.take k) (fun p hq => (hp p (List.mem_of_mem_take hq)).2) _ (getD_mem (by rw [h4]; exact h2))
      refine ⟨by omega, OrH.l ⟨DrawH.of follows_mixed (by kernel_rfl), h2, by rw [h4]; exact h2, OrH.l (OrH.l ⟨⟨h5, h3⟩, h2, ⟨by omega, by omega⟩, k + 1, by omega, by omega, ?_⟩)⟩⟩
      refine Wkn.of [] [some 0] ?_
      simp (implicitDefEqProofs := false) (dsimp := false) only [List.getD_cons_zero, List.set_cons_zero, List.set_cons_succ, Bool.and_true, Bool.true_and, Bool.and_self, Nat.reduceAdd, Nat.reduceSub, Nat.reduceMul, List.replicate, evK_go, reduceIte, Nat.reduceEqDiff, Nat.reduceLT, and_self, true_and, and_true, List.foldl_cons, List.foldl_nil, Int.cast_ofNat_Int, Int.natCast_add, slots, wkL_nil, wkL_cons, wkB_nil, wkR_nil, wkR_some, wkV_j, wkV_d, wkV_o, frz_d, oK_zs, reduceCtorEq, Option.some.injEq]
      rw [take_succ_getD h, outS_snoc, outF, List.map_set]
    · obtain rfl : k = l.length := by omega
      simp (implicitDefEqProofs := false) (dsimp := false) only [↓optK_some, ↓rwK_mk_, ↓aw_seq, ↓aw_exit, ↓aw_ret, ↓aw_reg, ↓Qseq_n, ↓Qseq_x, ↓Qblk_x, ↓ops_nil, ↓ops_cons, ↓eval_tmp, ↓put_some, ↓op_move, ↓op_assign, ↓row_sz, ↓row_xs, ↓Qrow_r, ↓rowK_o, List.getD_cons_zero, List.getD_cons_succ, List.set_cons_zero, List.set_cons_succ, Bool.true_and, Nat.reduceAdd, Nat.reduceSub, Nat.reduceMul, evK_go, reduceIte, decide_false, Nat.reduceEqDiff, Nat.reduceLT, true_and, Nat.lt_irrefl]
      simp (implicitDefEqProofs := false) (dsimp := false) only [List.take_length]
      have h4 := outS_len n l
      exact List.take_of_length_le (by simp [h4])
theorem out_call (n : Nat) (l : List (Nat × Nat)) (pure : Bool) (σ : St) (dst : Option Tmp) (K : St → Prop) : CallH Tryd.prog 81 [I .i64 (n : Int), .l (l.map lnN)] pure σ dst (.mk : Hid K) = OrH ((n ≤ 64 ∧ l.length < 2 ^ 62 ∧ ∀ p ∈ l, p.1 < n ∧ p.2 < 64) ∧ (pure || Res.flat (.row 1 ((outS n l).map U))) = true ∧ evK ((σ.addRow ⟨1, (outS n l).map U⟩).put dst (.o σ.rw.length 0 (List.length ((outS n l).map U)))) (.mk : Hid K)) (.mk : Hid (CallH Tryd.prog 81 [I .i64 (n : Int), .l (l.map lnN)] pure σ dst (.mk : Hid K))) := CallH.eqR (fun h => out_spec n l h) pure σ dst K
theorem out_callD (n : Nat) (l : List (Nat × Nat)) (pure : Bool) (σ : St) (dst : Option Tmp) (K : St → Prop) : CallH Tryd.prog 81 [I .i64 (n : Int), .l (l.map lnN)] pure σ dst (.mk : Hid K) = OrH ((n ≤ 64 ∧ l.length < 2 ^ 62 ∧ ∀ p ∈ l, p.1 < n ∧ p.2 < 64) ∧ (pure || D.flat (.l ((outS n l).map U))) = true ∧ evK (σ.put dst (.d (.l ((outS n l).map U)))) (.mk : Hid K)) (.mk : Hid (CallH Tryd.prog 81 [I .i64 (n : Int), .l (l.map lnN)] pure σ dst (.mk : Hid K))) := CallH.eq (fun h => ((fun h => out_spec n l h) h).data) pure σ dst K
end Go.Proofs

namespace Go.Proofs
open Go.Aw
set_option linter.unusedSimpArgs false
set_option maxRecDepth 10000
/-- Numbers as data. -/
def nD (n : Nat) : D := I .i64 (n : Int)
/-- The loop's state: seen, the row's head, what is to do. -/
structure RS where
  s : Nat
  pre : List Nat
  q : List Nat
structure RI (a w : Nat) (next : List Nat) (st : RS) : Prop where
  lt : st.s < 2 ^ 64
  start : st.s.testBit a = true
  ql : st.q.length ≤ cnt st.s
  sound : ∀ j, st.s.testBit j = true → Rch next w a j
  inq : ∀ j ∈ st.q, st.s.testBit j = true
  done : ∀ b, st.s.testBit b = true → b ∉ st.q → ∀ c, (next.getD b default).testBit c = true → w.testBit c = true → st.s.testBit c = true
end Go.Proofs

namespace Go.Proofs
open Go.Aw
set_option linter.unusedSimpArgs false
set_option maxRecDepth 10000
/-! From integers to points. -/
def natP (p : Int × Int) : Nat × Nat := (p.1.toNat, p.2.toNat)
def natL (l : List (Int × Int)) : List (Nat × Nat) := l.map natP
theorem firstErr_zero {f : Int × Int → Int} {l : List (Int × Int)} (h : firstErr f l = 0) : ∀ p ∈ l, f p = 0 := by
  induction l with
  | nil => intro p hp; cases hp
  | cons q l ih =>
    intro p hp
    by_cases hq : f q = 0
    · have h2 : firstErr f l = 0 := by simpa [firstErr, hq] using h
      rcases List.mem_cons.1 hp with rfl | hp
      · exact hq
      · exact ih h2 p hp
    · simp [firstErr, hq] at h
structure Ok (n : Int) (l : List (Int × Int)) : Prop where
  n0 : n = (n.toNat : Int)
  lo : 1 ≤ n.toNat
  hi : n.toNat ≤ 8
  len : l.length ≤ 24
  rng : ∀ p ∈ l, 0 ≤ p.1 ∧ 0 ≤ p.2
  good : Good n.toNat (natL l)
  ne : ∀ p ∈ natL l, p.1 ≠ p.2
theorem chk_ok {n : Int} {l : List (Int × Int)} (h : chk n l = 0) : Ok n l := by
  unfold chk at h
  split at h
  · cases h
  · rename_i hn
    split at h
    · cases h
    · rename_i hl
      have hn' : 1 ≤ n ∧ n ≤ 8 := by simpa [inB] using hn
      have hp : ∀ p ∈ l, (0 ≤ p.1 ∧ p.1 ≤ n - 1) ∧ (0 ≤ p.2 ∧ p.2 ≤ n - 1) ∧ p.1 ≠ p.2 := fun p hp => by
        have := firstErr_zero h p hp
        unfold lineErr at this
        split at this
        · cases this
        · rename_i h1
          split at this
          · cases this
          · rename_i h2
            simp [inB] at h1
            exact ⟨⟨h1.1, h1.2.1⟩, h1.2.2, h2⟩
      refine ⟨by omega, by omega, by omega, by omega, fun p h' => ⟨(hp p h').1.1, (hp p h').2.1.1⟩, fun p h' => ?_, fun p h' => ?_⟩
      · obtain ⟨q, hq, rfl⟩ := List.mem_map.1 h'
        have := hp q hq
        simp (implicitDefEqProofs := false) (dsimp := false) only [natP]; omega
      · obtain ⟨q, hq, rfl⟩ := List.mem_map.1 h'
        have := hp q hq
        simp (implicitDefEqProofs := false) (dsimp := false) only [natP]; omega
theorem lnD_nat {l : List (Int × Int)} (h : ∀ p ∈ l, 0 ≤ p.1 ∧ 0 ≤ p.2) : l.map lnD = (natL l).map lnN := by
  unfold natL
  rw [List.map_map]
  refine List.map_congr_left fun p hp => ?_
  have := h p hp
  show D.s _ = D.s _
  simp (implicitDefEqProofs := false) (dsimp := false) only [natP, Int.toNat_of_nonneg this.1, Int.toNat_of_nonneg this.2]
theorem natL_len (l : List (Int × Int)) : (natL l).length = l.length := by simp [natL]
theorem Ok.out {n : Int} {l : List (Int × Int)} (h : Ok n l) : n.toNat ≤ 64 ∧ (natL l).length < 2 ^ 62 ∧ ∀ p ∈ natL l, p.1 < n.toNat ∧ p.2 < 64 := by
  refine ⟨by have := h.hi; omega, by rw [natL_len]; have := h.len; omega, fun p hp => ?_⟩
  have := h.good p hp
  have := h.hi
  omega
theorem gcheck_spec (n : Int) (l : List (Int × Int)) (hpre : l.length < 2 ^ 62) : FnD Tryd.prog 80 [I .i64 n, .l (l.map lnD)] (erD (chk n l)) := by
  refine FnD.go Tryd.func80 rfl rfl Tryd.results80 Tryd.ntmps80 ?_
  simp (implicitDefEqProofs := false) (dsimp := false) only [↓aw_seq, ↓aw_reg, ↓Qseq_n, ↓ops_nil, ↓ops_cons, ↓eval_tmp, ↓eval_func, ↓put_some, ↓op_move, ↓op_assign, ↓op_call, isD_d, ↓fnK_f, ↓call_H, ↓callK_H, ↓allT_nil, ↓allT_cons, ↓td_d, List.getD_cons_zero, List.getD_cons_succ, List.set_cons_zero, List.set_cons_succ, List.cons_append, List.nil_append, List.append_nil, List.map_cons, List.map_nil, List.length_cons, List.length_nil, List.all_cons, List.all_nil, Bool.and_self, Nat.reduceAdd, Nat.reduceSub, Nat.reduceMul, Nat.zero_add, List.replicate, evK_go, reduceIte, Nat.reduceEqDiff, Nat.reduceLT, and_self, Int.zero_add]
  simp (implicitDefEqProofs := false) (dsimp := false) only [check_call, ↓aw_ret, ↓Qseq_n, ↓Qret_r, ↓ops_nil, ↓ops_cons, ↓eval_tmp, ↓put_some, ↓op_assign, ↓td_d, ↓ret_1, List.getD_cons_zero, List.getD_cons_succ, List.set_cons_zero, List.set_cons_succ, Bool.and_true, Bool.and_self, Bool.true_or, Nat.reduceAdd, Nat.reduceSub, Nat.reduceMul, evK_go, reduceIte, Nat.reduceEqDiff, Nat.reduceLT, and_self, and_true]
  exact OrH.l (OrH.l hpre)
theorem gcheck_call (n : Int) (l : List (Int × Int)) (pure : Bool) (σ : St) (dst : Option Tmp) (K : St → Prop) : CallH Tryd.prog 80 [I .i64 n, .l (l.map lnD)] pure σ dst (.mk : Hid K) = OrH ((l.length < 2 ^ 62) ∧ (pure || D.flat (erD (chk n l))) = true ∧ evK (σ.put dst (.d (erD (chk n l)))) (.mk : Hid K)) (.mk : Hid (CallH Tryd.prog 80 [I .i64 n, .l (l.map lnD)] pure σ dst (.mk : Hid K))) := CallH.eq (gcheck_spec n l) pure σ dst K
def isI (P : Program) (t : TypeId) : Bool := match P.underlying t with
  | some (.interface _) => true
  | _ => false
theorem isI_inv {P : Program} {t : TypeId} (h : isI P t = true) : ∃ ms, P.underlying t = some (.interface ms) := by
  unfold isI at h
  split at h
  · rename_i ms e; exact ⟨ms, e⟩
  · cases h
theorem u25 : ∃ ms, Tryd.prog.underlying 29 = some (.interface ms) := isI_inv (by kernel_rfl)
theorem ub4 : Tryd.prog.underlying 4 = some .bool := by kernel_rfl
theorem er_neq (e : Int) (x : Operand) (C : V → Prop) : binE Tryd.prog .neq 29 x (.const .nilIface) (.d (erD e)) (.d (.c .nilIface)) C = C (.d (Bo (!decide (e = 0)))) := by
  by_cases h : e = 0
  · subst h; obtain ⟨ms, h⟩ := u25; exact binX (nil_neq h x) C
  · simp (implicitDefEqProofs := false) (dsimp := false) only [erD, h, if_false]; obtain ⟨ms, h⟩ := u25; exact binX (some_neq h x _ _ _) C
theorem er_eql (e : Int) (x : Operand) (C : V → Prop) : binE Tryd.prog .eql 29 x (.const .nilIface) (.d (erD e)) (.d (.c .nilIface)) C = C (.d (Bo (decide (e = 0)))) := by
  by_cases h : e = 0
  · subst h; obtain ⟨ms, h⟩ := u25; exact binX (nil_eql h x) C
  · simp (implicitDefEqProofs := false) (dsimp := false) only [erD, h, if_false]; obtain ⟨ms, h⟩ := u25; exact binX (some_eql h x _ _ _) C
theorem er_neq0 (x : Operand) (C : V → Prop) : binE Tryd.prog .neq 29 x (.const .nilIface) (.d (erD 0)) (.d (.c .nilIface)) C = C (.d (Bo false)) := er_neq 0 x C
theorem er_eql0 (x : Operand) (C : V → Prop) : binE Tryd.prog .eql 29 x (.const .nilIface) (.d (erD 0)) (.d (.c .nilIface)) C = C (.d (Bo true)) := er_eql 0 x C
theorem bo_eql (x y : Operand) (a b : Bool) (C : V → Prop) : binE Tryd.prog .eql 4 x y (.d (Bo a)) (.d (Bo b)) C = C (.d (Bo (a == b))) := binE_eqb ub4 x y a b C
theorem bo_neq (x y : Operand) (a b : Bool) (C : V → Prop) : binE Tryd.prog .neq 4 x y (.d (Bo a)) (.d (Bo b)) C = C (.d (Bo (!(a == b)))) := binE_neb ub4 x y a b C
theorem er_one (e : Int) : D.one (erD e) = true := by unfold erD; split <;> rfl
theorem er_flat (e : Int) : D.flat (erD e) = true := by unfold erD; split <;> rfl
theorem rflat_U (n : Nat) (l : List Nat) : Res.flat (.row n (l.map U)) = true := by
  simp [Res.flat, D.flat]
theorem rflat_nD (n : Nat) (l : List Nat) : Res.flat (.row n (l.map nD)) = true := by
  simp [Res.flat, D.flat, nD, I]
theorem rflat_I (n : Nat) (l : List Int) : Res.flat (.row n (l.map (I .i64))) = true := by
  simp [Res.flat, D.flat, I]
theorem rflat_nil (n : Nat) : Res.flat (.row n []) = true := rfl
end Go.Proofs

namespace Go.Proofs
open Go.Aw Go.RowKit Go.Extern.Stop Go.Stop Go.Extern
theorem hnd_eq : hnd Tryd.prog = .iface 142 (.agg #[.pointer (some ⟨1, 29, none⟩)]) := by kernel_rfl
theorem glob_eq : Tryd.prog.globalNamed "errors.errorType" = some 0 := by kernel_rfl
theorem told_nil (w : World) : Calls Tryd.prog 86 #[.nilIface] w fun e w' => e = .returned (.int .i64 0) ∧ w' = w := by
  go_enter Tryd.func86, Tryd.ntmps86
  go_wp2
  go_ret
  exact ⟨rfl, rfl⟩
set_option maxHeartbeats 4000000 in
theorem told_some (n : Int) (w : World) (hg : w.cell? ⟨0, 0, none⟩ = some (.iface 142 (.agg #[.pointer (some ⟨1, 29, none⟩)]))) : Calls Tryd.prog 86 #[.iface 108 (.int .i64 n)] w fun e w' => e = .returned (.int .i64 n) ∧ Below w.heap.size w w' := by
  have hlt : 0 < w.heap.size := by
    rcases Nat.eq_zero_or_pos w.heap.size with h0 | h
    · simp [World.cell?, h0] at hg
    · exact h
  have hgA : (w.alloc (.cells #[.int .i64 0] 108)).cell? ⟨0, 0, none⟩ = some (.iface 142 (.agg #[.pointer (some ⟨1, 29, none⟩)])) := by
    rw [World.cell?_alloc_lt _ _ ⟨0, 0, none⟩ hlt]; exact hg
  have htA : (w.alloc (.cells #[.int .i64 0] 108)).cell? ⟨w.heap.size, 0, none⟩ = some (.int .i64 0) := by simp
  have hfA : (w.alloc (.cells #[.int .i64 0] 108)).frozen? ⟨w.heap.size, 0, none⟩ = false := by simp
  go_enter Tryd.func86, Tryd.ntmps86
  go_wp2_with (first | (go_at_call 113; refine (as_hit n _ (.int .i64 0) _ hgA htA hfA).mono ?_; rintro e w' ⟨rfl, rfl⟩))
  go_ret
  refine ⟨rfl, ?_⟩
  exact (((((Below.refl _ w).alloc (Nat.le_refl _) _).alloc (by simp) _).alloc (by simp; omega) _).alloc (by simp; omega) _).alloc (by simp; omega) _
theorem told_spec (e : Int) : FnD Tryd.prog 86 [erD e] (I .i64 e) := by
  refine ⟨fun args w => enters_of Tryd.func86 rfl rfl args w, fun w N vs hg hN ha => ?_⟩
  obtain ⟨v, rfl⟩ := List.length_eq_one_iff.1 ha.1
  have hv := ha.2 0 _ v rfl rfl
  have hc := hg 0 glob_eq
  rw [hnd_eq] at hc
  have key : Calls Tryd.prog 86 #[v] w fun ev w' => ev = .returned (.int .i64 e) ∧ Below w.heap.size w w' := by
    by_cases h : e = 0
    · subst h
      cases hv
      exact (told_nil w).mono fun ev w' ⟨h1, h2⟩ => ⟨h1, by rw [h2]; exact Below.refl _ _⟩
    · have hv : RelD w N (.c (.iface 108 (.int .i64 e))) v := by
        have e1 : erD e = .c (.iface 108 (.int .i64 e)) := if_neg h
        rwa [e1] at hv
      cases hv
      exact told_some e w hc
  exact (callsIn_wide.2 key).mono fun ev w' ⟨h1, h2⟩ => ⟨_, _, rfl, h1, h2, .c _⟩
end Go.Proofs

namespace Go.Proofs
open Go.Aw
set_option linter.unusedSimpArgs false
def two (fs : List Field) : Bool := match fs with
  | [f0, f1] => f0.name != "_" && f1.name != "_" && f0.type == 3 && f1.type == 3 && f0.offset == 0 && f1.offset == 1
  | _ => false
end Go.Proofs

namespace Go.Proofs
open Go.Aw
set_option linter.unusedSimpArgs false
set_option maxRecDepth 10000
theorem told_call (e : Int) (pure : Bool) (σ : St) (dst : Option Tmp) (K : St → Prop) : CallH Tryd.prog 86 [erD e] pure σ dst (.mk : Hid K) = OrH ((pure || D.flat (I .i64 e)) = true ∧ evK (σ.put dst (.d (I .i64 e))) (.mk : Hid K)) (.mk : Hid (CallH Tryd.prog 86 [erD e] pure σ dst (.mk : Hid K))) := CallH.eq0 (told_spec e) pure σ dst K
theorem eerr_spec (e n : Int) : FnD Tryd.prog 24 [erD e, I .i64 n] (Bo (decide (e = n))) := by
  refine FnD.go Tryd.func24 rfl rfl Tryd.results24 Tryd.ntmps24 ?_
  simp (implicitDefEqProofs := false) (dsimp := false) only [↓aw_seq, ↓aw_reg, ↓Qseq_n, ↓ops_nil, ↓ops_cons, ↓eval_tmp, ↓eval_bool, ↓eval_func, ↓put_some, ↓op_move, ↓op_assign, ↓op_call, isD_d, ↓fnK_f, ↓call_H, ↓callK_H, ↓allT_nil, ↓allT_cons, ↓td_d, List.getD_cons_zero, List.getD_cons_succ, List.set_cons_zero, List.set_cons_succ, List.cons_append, List.nil_append, List.append_nil, List.map_cons, List.map_nil, List.length_cons, List.length_nil, List.all_cons, List.all_nil, Bool.and_self, Nat.reduceAdd, Nat.reduceSub, Nat.reduceMul, Nat.zero_add, List.replicate, evK_go, reduceIte, Nat.reduceEqDiff, Nat.reduceLT, and_self, Int.zero_add]
  simp (implicitDefEqProofs := false) (dsimp := false) only [told_call, ↓aw_seq, ↓aw_ret, ↓aw_reg, ↓Qseq_n, ↓Qret_r, ↓ops_nil, ↓ops_cons, ↓eval_tmp, ↓put_some, ↓binE_i, ↓bi_eql, ↓op_move, ↓op_assign, ↓op_bin, ↓orH_T, ↓td_d, ↓ret_1, List.getD_cons_zero, List.getD_cons_succ, List.set_cons_zero, List.set_cons_succ, Bool.and_self, Bool.true_or, Nat.reduceAdd, Nat.reduceSub, Nat.reduceMul, evK_go, reduceIte, Nat.reduceEqDiff, Nat.reduceLT, and_self]
theorem eerr_call (e n : Int) (pure : Bool) (σ : St) (dst : Option Tmp) (K : St → Prop) : CallH Tryd.prog 24 [erD e, I .i64 n] pure σ dst (.mk : Hid K) = OrH ((pure || D.flat (Bo (decide (e = n)))) = true ∧ evK (σ.put dst (.d (Bo (decide (e = n))))) (.mk : Hid K)) (.mk : Hid (CallH Tryd.prog 24 [erD e, I .i64 n] pure σ dst (.mk : Hid K))) := CallH.eq0 (eerr_spec e n) pure σ dst K
end Go.Proofs

namespace Go.Proofs
open Go.Aw
set_option linter.unusedSimpArgs false
set_option maxRecDepth 10000
def strongR (n : Int) (l : List (Int × Int)) : List Nat := if chk n l = 0 then strongP n.toNat (natL l) else []
end Go.Proofs

namespace Go.Proofs
open Go.Aw
set_option linter.unusedSimpArgs false
set_option maxRecDepth 10000
def foldO (n : Int) (l : List (Int × Int)) : List Nat := if chk n l = 0 then fOut n.toNat (natL l) else []
def foldL (n : Int) (l : List (Int × Int)) : List (Nat × Nat) := if chk n l = 0 then fLines n.toNat (natL l) else []
end Go.Proofs

namespace Go.Proofs
open Go.Aw
set_option linter.unusedSimpArgs false
set_option maxRecDepth 10000
theorem in1_spec (n low high : Int) : FnD Tryd.prog 79 [I .i64 n, I .i64 low, I .i64 high] (Bo (inB n low high)) := by
  refine FnD.go Tryd.func79 rfl rfl Tryd.results79 Tryd.ntmps79 ?_
  simp (implicitDefEqProofs := false) (dsimp := false) only [↓gdK_t, ↓gval_mk, ↓gvL_zero, ↓gvL_succ, ↓aw_seq, ↓aw_reg, ↓Qseq_n, ↓ops_nil, ↓ops_cons, ↓ops_guard, ↓eval_tmp, ↓eval_bool, ↓put_some, ↓binE_i, ↓bi_geq, ↓op_move, ↓op_assign, ↓op_bin, ↓st_tm, List.getD_cons_zero, List.getD_cons_succ, List.set_cons_zero, List.set_cons_succ, List.cons_append, List.nil_append, List.map_cons, List.map_nil, List.length_cons, List.length_nil, Nat.reduceAdd, Nat.reduceSub, Nat.reduceMul, Nat.zero_add, List.replicate, evK_go, reduceIte, Nat.reduceEqDiff, Nat.reduceLT, Int.zero_add]
  refine cdK_dec (fun h => ?_) (fun h => ?_) <;> simp (implicitDefEqProofs := false) (dsimp := false) only [h, inB, ↓cdK_true, ↓cdK_false, ↓gdK_t, ↓gval_mk, ↓gvL_zero, ↓gvL_succ, ↓aw_ret, ↓Qseq_n, ↓Qret_r, ↓ops_nil, ↓ops_cons, ↓ops_guard, ↓eval_tmp, ↓eval_bool, ↓put_some, ↓bK_b, ↓binE_i, ↓bi_leq, ↓op_move, ↓op_assign, ↓op_pick, ↓op_bin, ↓td_d, ↓ret_1, ↓st_tm, List.getD_cons_zero, List.getD_cons_succ, List.set_cons_zero, List.set_cons_succ, Bool.true_and, Bool.false_and, Nat.reduceAdd, Nat.reduceSub, Nat.reduceMul, evK_go, reduceIte, decide_true, decide_false, Nat.reduceEqDiff, Nat.reduceLT, true_and]
theorem in1_call (n low high : Int) (pure : Bool) (σ : St) (dst : Option Tmp) (K : St → Prop) : CallH Tryd.prog 79 [I .i64 n, I .i64 low, I .i64 high] pure σ dst (.mk : Hid K) = OrH ((pure || D.flat (Bo (inB n low high))) = true ∧ evK (σ.put dst (.d (Bo (inB n low high)))) (.mk : Hid K)) (.mk : Hid (CallH Tryd.prog 79 [I .i64 n, I .i64 low, I .i64 high] pure σ dst (.mk : Hid K))) := CallH.eq0 (in1_spec n low high) pure σ dst K
theorem hasR_spec (l : List Int) (n : Int) (hpre : l.length < 2 ^ 62) : FnD Tryd.prog 41 [.l (l.map (I .i64)), I .i64 n] (Bo (decide (n ∈ l))) := by
  refine FnD.go Tryd.func41 rfl rfl Tryd.results41 Tryd.ntmps41 ?_
  simp (implicitDefEqProofs := false) (dsimp := false) only [↓aw_seq, ↓aw_block, ↓aw_loop, ↓aw_reg, ↓Qseq_n, ↓ops_nil, ↓ops_cons, ↓eval_int, ↓eval_bool, ↓put_some, ↓op_assign, List.set_cons_zero, List.set_cons_succ, List.cons_append, List.nil_append, List.map_cons, List.map_nil, List.length_cons, List.length_nil, Nat.reduceAdd, Nat.reduceSub, Nat.reduceMul, Nat.zero_add, List.replicate, evK_go, reduceIte, Nat.reduceEqDiff, Nat.reduceLT, Int.zero_add]
  refine loopW (fun k : Nat => { tm := slots 18 [(0, .d (.l (l.map (I .i64)))), (1, .d (I .i64 n)), (5, .d (I .i64 k))], bx := [], rw := [] })
    (fun k => k ≤ l.length ∧ n ∉ l.take k) (fun k => l.length - k) 0 ⟨by simp, by simp⟩ ?_ ?_
  · refine Wkn.of [] [] ?_
    simp (implicitDefEqProofs := false) (dsimp := false) only [List.set_cons_zero, List.set_cons_succ, Bool.and_self, Nat.reduceAdd, Nat.reduceSub, Nat.reduceMul, List.replicate, evK_go, reduceIte, Nat.reduceEqDiff, Nat.reduceLT, and_self, List.foldl_cons, List.foldl_nil, Int.cast_ofNat_Int, slots, wkL_nil, wkL_cons, wkB_nil, wkR_nil, wkV_j, wkV_d, frz_d, reduceCtorEq]
  · rintro k ⟨h1, h2⟩
    simp (implicitDefEqProofs := false) (dsimp := false) only [slots, ↓aw_cond, ↓aw_seq, ↓aw_reg, ↓Qseq_n, ↓ops_nil, ↓ops_cons, ↓eval_tmp, ↓put_some, ↓bK_b, ↓lenK_l, ↓binE_i, ↓bi_lss, ↓op_move, ↓op_bin, ↓op_len, ↓sl24, List.getD_cons_zero, List.getD_cons_succ, List.set_cons_zero, List.set_cons_succ, List.length_map, Nat.reduceAdd, Nat.reduceSub, Nat.reduceMul, List.replicate, evK_go, reduceIte, Nat.reduceEqDiff, Nat.reduceLT, List.foldl_cons, List.foldl_nil, Int.ofNat_lt]
    refine cdK_dec (fun h => ?_) (fun h => ?_)
    · simp (implicitDefEqProofs := false) (dsimp := false) only [h, ↓atK_H, ↓atH_map, ↓aw_cond, ↓aw_seq, ↓aw_block, ↓aw_skip, ↓aw_reg, ↓Qseq_n, ↓ops_nil, ↓ops_cons, ↓eval_tmp, ↓put_some, ↓bK_b, ↓iK_i, ↓binE_i, ↓bi_eql, ↓ldK_q, ↓iaK_l, ↓op_move, ↓op_load, ↓op_bin, ↓op_ia, ↓cells_c, ↓hd_cons, ↓ty3, ↓sl24, List.getD_cons_zero, List.getD_cons_succ, List.set_cons_zero, List.set_cons_succ, List.length_cons, List.length_nil, Bool.true_and, Nat.reduceAdd, Nat.reduceSub, Nat.reduceMul, Nat.zero_add, Int.toNat_natCast, evK_go, reduceIte, decide_true, Nat.reduceEqDiff, Nat.reduceLT, true_and, Int.zero_add, Int.natCast_nonneg]
      refine cdK_dec (fun hb => ?_) (fun hb => ?_)
      · have : n ∈ l := by rw [← hb]; exact getD_mem h
        simp (implicitDefEqProofs := false) (dsimp := false) only [this, ↓aw_seq, ↓aw_ret, ↓aw_reg, ↓Qseq_n, ↓Qseq_r, ↓Qblk_r, ↓Qret_r, ↓ops_nil, ↓ops_cons, ↓eval_tmp, ↓eval_bool, ↓put_some, ↓op_assign, ↓td_d, ↓ret_1, List.getD_cons_zero, List.getD_cons_succ, List.set_cons_zero, List.set_cons_succ, Nat.reduceAdd, Nat.reduceSub, Nat.reduceMul, evK_go, reduceIte, decide_true, Nat.reduceEqDiff, Nat.reduceLT]
      · simp (implicitDefEqProofs := false) (dsimp := false) only [↓aw_skip, ↓aw_reg, ↓Qseq_n, ↓Qblk_n, ↓ops_nil, ↓ops_cons, ↓eval_tmp, ↓eval_int, ↓put_some, ↓binE_i, ↓bi_add, ↓in_i64, ↓op_move, ↓op_assign, ↓op_bin, List.getD_cons_zero, List.getD_cons_succ, List.set_cons_zero, List.set_cons_succ, Nat.reduceAdd, Nat.reduceSub, Nat.reduceMul, evK_go, reduceIte, Nat.reduceEqDiff, Nat.reduceLT]
        refine ⟨by omega, k + 1, ⟨by omega, ?_⟩, by omega, ?_⟩
        · rw [take_succ_getD h, List.mem_append, List.mem_singleton]
          exact fun h' => h'.elim h2 (fun e => hb e.symm)
        · refine Wkn.of [] [] ?_
          simp (implicitDefEqProofs := false) (dsimp := false) only [List.set_cons_zero, List.set_cons_succ, Bool.and_self, Nat.reduceAdd, Nat.reduceSub, Nat.reduceMul, List.replicate, evK_go, reduceIte, Nat.reduceEqDiff, Nat.reduceLT, and_self, List.foldl_cons, List.foldl_nil, Int.cast_ofNat_Int, Int.natCast_add, slots, wkL_nil, wkL_cons, wkB_nil, wkR_nil, wkV_j, wkV_d, frz_d, reduceCtorEq]
    · obtain rfl : k = l.length := by omega
      rw [List.take_length] at h2
      simp (implicitDefEqProofs := false) (dsimp := false) only [h2, ↓aw_seq, ↓aw_exit, ↓aw_ret, ↓aw_reg, ↓Qseq_n, ↓Qseq_x, ↓Qblk_x, ↓Qret_r, ↓ops_nil, ↓ops_cons, ↓eval_tmp, ↓eval_bool, ↓put_some, ↓op_assign, ↓td_d, ↓ret_1, List.getD_cons_zero, List.getD_cons_succ, List.set_cons_zero, List.set_cons_succ, Nat.reduceAdd, Nat.reduceSub, Nat.reduceMul, evK_go, reduceIte, decide_false, Nat.reduceEqDiff, Nat.reduceLT, Nat.lt_irrefl]
/-- Does a number stand twice? -/
def twice : List Int → Bool
  | l => !decide l.Nodup
theorem goes_spec (l : List (Int × Int)) (a b : Int) (hpre : l.length < 2 ^ 62) : FnD Tryd.prog 40 [.l (l.map lnD), I .i64 a, I .i64 b] (Bo (decide ((a, b) ∈ l))) := by
  refine FnD.go Tryd.func40 rfl rfl Tryd.results40 Tryd.ntmps40 ?_
  simp (implicitDefEqProofs := false) (dsimp := false) only [↓aw_seq, ↓aw_block, ↓aw_loop, ↓aw_reg, ↓Qseq_n, ↓ops_nil, ↓ops_cons, ↓eval_int, ↓eval_bool, ↓put_some, ↓op_assign, List.set_cons_zero, List.set_cons_succ, List.cons_append, List.nil_append, List.map_cons, List.map_nil, List.length_cons, List.length_nil, Nat.reduceAdd, Nat.reduceSub, Nat.reduceMul, Nat.zero_add, List.replicate, evK_go, reduceIte, Nat.reduceEqDiff, Nat.reduceLT, Int.zero_add]
  refine loopW (fun k : Nat => { tm := slots 30 [(0, .d (.l (l.map lnD))), (1, .d (I .i64 a)), (2, .d (I .i64 b)), (7, .d (I .i64 k))], bx := [], rw := [] })
    (fun k => k ≤ l.length ∧ (a, b) ∉ l.take k) (fun k => l.length - k) 0 ⟨by simp, by simp⟩ ?_ ?_
  · refine Wkn.of [] [] ?_
    simp (implicitDefEqProofs := false) (dsimp := false) only [List.set_cons_zero, List.set_cons_succ, Bool.and_self, Nat.reduceAdd, Nat.reduceSub, Nat.reduceMul, List.replicate, evK_go, reduceIte, Nat.reduceEqDiff, Nat.reduceLT, and_self, List.foldl_cons, List.foldl_nil, Int.cast_ofNat_Int, slots, wkL_nil, wkL_cons, wkB_nil, wkR_nil, wkV_j, wkV_d, frz_d, reduceCtorEq]
  · rintro k ⟨h1, h2⟩
    simp (implicitDefEqProofs := false) (dsimp := false) only [slots, ↓aw_cond, ↓aw_seq, ↓aw_reg, ↓Qseq_n, ↓ops_nil, ↓ops_cons, ↓eval_tmp, ↓put_some, ↓bK_b, ↓lenK_l, ↓binE_i, ↓bi_lss, ↓op_move, ↓op_bin, ↓op_len, ↓sl22, List.getD_cons_zero, List.getD_cons_succ, List.set_cons_zero, List.set_cons_succ, List.length_map, Nat.reduceAdd, Nat.reduceSub, Nat.reduceMul, List.replicate, evK_go, reduceIte, Nat.reduceEqDiff, Nat.reduceLT, List.foldl_cons, List.foldl_nil, Int.ofNat_lt]
    refine cdK_dec (fun h => ?_) (fun h => ?_)
    · have ev : ∀ (hb : ¬ ((l.getD k default).1 = a ∧ (l.getD k default).2 = b)), (a, b) ∉ l.take (k + 1) := fun hb => by
        rw [take_succ_getD h, List.mem_append, List.mem_singleton]
        exact fun h' => h'.elim h2 (fun e => hb (by rw [← e]; exact ⟨rfl, rfl⟩))
      simp (implicitDefEqProofs := false) (dsimp := false) only [h, lnD_cells, ↓gdK_t, ↓gval_mk, ↓gvL_zero, ↓gvL_succ, ↓atK_H, ↓atH_map, ↓aw_seq, ↓aw_block, ↓aw_skip, ↓aw_reg, ↓Qseq_n, ↓ops_cons, ↓ops_guard, ↓eval_tmp, ↓put_some, ↓iK_i, ↓binE_i, ↓bi_eql, ↓ldK_q, ↓faK_q, ↓iaK_l, ↓op_move, ↓op_load, ↓op_bin, ↓op_fa, ↓op_ia, ↓st_tm, ↓hd_cons, ↓ty3, ↓sl22, ↓ty41, ↓fd41_0, List.getD_cons_zero, List.getD_cons_succ, List.set_cons_zero, List.set_cons_succ, List.length_cons, List.length_nil, Bool.true_and, Nat.reduceAdd, Nat.reduceSub, Nat.reduceMul, Nat.zero_add, Int.toNat_natCast, evK_go, reduceIte, decide_true, Nat.reduceEqDiff, Nat.reduceLT, true_and, Int.zero_add, List.drop_zero, Int.natCast_nonneg]
      refine cdK_dec (fun hA => ?_) (fun hA => ?_)
      · simp (implicitDefEqProofs := false) (dsimp := false) only [h, hA, lnD_cells, ↓cdK_true, ↓gdK_t, ↓gval_mk, ↓gvL_zero, ↓gvL_succ, ↓atK_H, ↓atH_map, ↓aw_cond, ↓Qseq_n, ↓ops_nil, ↓ops_cons, ↓ops_guard, ↓eval_tmp, ↓put_some, ↓bK_b, ↓iK_i, ↓binE_i, ↓bi_eql, ↓ldK_q, ↓faK_q, ↓iaK_l, ↓op_move, ↓op_pick, ↓op_load, ↓op_bin, ↓op_fa, ↓op_ia, ↓st_tm, ↓hd_cons, ↓ty3, ↓sl22, ↓ty41, ↓fd41_1, List.getD_cons_zero, List.getD_cons_succ, List.set_cons_zero, List.set_cons_succ, List.length_cons, List.length_nil, Bool.true_and, Nat.reduceAdd, Nat.reduceSub, Nat.reduceMul, Nat.zero_add, Int.toNat_natCast, evK_go, reduceIte, decide_true, Nat.reduceEqDiff, Nat.reduceLT, true_and, Int.zero_add, List.drop_zero, List.drop_succ_cons, Int.natCast_nonneg]
        refine cdK_dec (fun hB => ?_) (fun hB => ?_)
        · have : (a, b) ∈ l := by rw [← hA, ← hB]; exact getD_mem h
          simp (implicitDefEqProofs := false) (dsimp := false) only [hB, this, ↓aw_seq, ↓aw_ret, ↓aw_reg, ↓Qseq_n, ↓Qseq_r, ↓Qblk_r, ↓Qret_r, ↓ops_nil, ↓ops_cons, ↓eval_tmp, ↓eval_bool, ↓put_some, ↓op_assign, ↓td_d, ↓ret_1, List.getD_cons_zero, List.getD_cons_succ, List.set_cons_zero, List.set_cons_succ, Nat.reduceAdd, Nat.reduceSub, Nat.reduceMul, evK_go, reduceIte, decide_true, Nat.reduceEqDiff, Nat.reduceLT]
        · simp (implicitDefEqProofs := false) (dsimp := false) only [hB, ↓aw_skip, ↓aw_reg, ↓Qseq_n, ↓Qblk_n, ↓ops_nil, ↓ops_cons, ↓eval_tmp, ↓eval_int, ↓put_some, ↓binE_i, ↓bi_add, ↓in_i64, ↓op_move, ↓op_assign, ↓op_bin, List.getD_cons_zero, List.getD_cons_succ, List.set_cons_zero, List.set_cons_succ, Nat.reduceAdd, Nat.reduceSub, Nat.reduceMul, evK_go, reduceIte, decide_false, Nat.reduceEqDiff, Nat.reduceLT]
          refine ⟨by omega, k + 1, ⟨by omega, ev fun h' => hB h'.2⟩, by omega, ?_⟩
          refine Wkn.of [] [] ?_
          simp (implicitDefEqProofs := false) (dsimp := false) only [List.set_cons_zero, List.set_cons_succ, Bool.and_self, Nat.reduceAdd, Nat.reduceSub, Nat.reduceMul, List.replicate, evK_go, reduceIte, Nat.reduceEqDiff, Nat.reduceLT, and_self, List.foldl_cons, List.foldl_nil, Int.cast_ofNat_Int, Int.natCast_add, slots, wkL_nil, wkL_cons, wkB_nil, wkR_nil, wkV_j, wkV_d, frz_d, reduceCtorEq]
      · simp (implicitDefEqProofs := false) (dsimp := false) only [hA, ↓cdK_false, ↓gdK_t, ↓gval_mk, ↓gvL_zero, ↓gvL_succ, ↓aw_cond, ↓aw_skip, ↓aw_reg, ↓Qseq_n, ↓Qblk_n, ↓ops_nil, ↓ops_cons, ↓ops_guard, ↓eval_tmp, ↓eval_int, ↓eval_bool, ↓put_some, ↓bK_b, ↓binE_i, ↓bi_add, ↓in_i64, ↓op_move, ↓op_assign, ↓op_pick, ↓op_bin, ↓st_tm, List.getD_cons_zero, List.getD_cons_succ, List.set_cons_zero, List.set_cons_succ, Nat.reduceAdd, Nat.reduceSub, Nat.reduceMul, evK_go, reduceIte, decide_false, Nat.reduceEqDiff, Nat.reduceLT]
        refine ⟨by omega, k + 1, ⟨by omega, ev fun h' => hA h'.1⟩, by omega, ?_⟩
        refine Wkn.of [] [] ?_
        simp (implicitDefEqProofs := false) (dsimp := false) only [List.set_cons_zero, List.set_cons_succ, Bool.and_self, Nat.reduceAdd, Nat.reduceSub, Nat.reduceMul, List.replicate, evK_go, reduceIte, Nat.reduceEqDiff, Nat.reduceLT, and_self, List.foldl_cons, List.foldl_nil, Int.cast_ofNat_Int, Int.natCast_add, slots, wkL_nil, wkL_cons, wkB_nil, wkR_nil, wkV_j, wkV_d, frz_d, reduceCtorEq]
    · obtain rfl : k = l.length := by omega
      rw [List.take_length] at h2
      simp (implicitDefEqProofs := false) (dsimp := false) only [h2, ↓aw_seq, ↓aw_exit, ↓aw_ret, ↓aw_reg, ↓Qseq_n, ↓Qseq_x, ↓Qblk_x, ↓Qret_r, ↓ops_nil, ↓ops_cons, ↓eval_tmp, ↓eval_bool, ↓put_some, ↓op_assign, ↓td_d, ↓ret_1, List.getD_cons_zero, List.getD_cons_succ, List.set_cons_zero, List.set_cons_succ, Nat.reduceAdd, Nat.reduceSub, Nat.reduceMul, evK_go, reduceIte, decide_false, Nat.reduceEqDiff, Nat.reduceLT, Nat.lt_irrefl]
theorem goes_call (l : List (Int × Int)) (a b : Int) (pure : Bool) (σ : St) (dst : Option Tmp) (K : St → Prop) : CallH Tryd.prog 40 [.l (l.map lnD), I .i64 a, I .i64 b] pure σ dst (.mk : Hid K) = OrH ((l.length < 2 ^ 62) ∧ (pure || D.flat (Bo (decide ((a, b) ∈ l)))) = true ∧ evK (σ.put dst (.d (Bo (decide ((a, b) ∈ l))))) (.mk : Hid K)) (.mk : Hid (CallH Tryd.prog 40 [.l (l.map lnD), I .i64 a, I .i64 b] pure σ dst (.mk : Hid K))) := CallH.eq (goes_spec l a b) pure σ dst K
end Go.Proofs

namespace Go.Proofs
open Go.Aw
set_option linter.unusedSimpArgs false
set_option maxRecDepth 10000
/-- A list of numbers as data. -/
def liD (x : List Int) : D := .l (x.map (I .i64))
end Go.Proofs

namespace Go.Proofs
open Go.Aw
set_option linter.unusedSimpArgs false
set_option maxRecDepth 10000
def sfL : List (Int × Int) := [(1, 2), (2, 1), (0, 1)]
end Go.Proofs

namespace Go.Proofs
open Go.Aw Go.ChangeShapes Go.WideShapes Go.ChangeAt Go.RowKit Go.Deep
set_option linter.unusedVariables false
set_option maxRecDepth 100000
theorem tkids : Kids Tryd.prog (· < Tryd.prog.types.size) := kids_rows (by kernel_rfl) (by kernel_rfl)
theorem tfull : ∀ t e, t < Tryd.prog.types.size → Tryd.prog.underlying t = some (.slice e) → 0 < Tryd.prog.cellsOf e := slices_full_of _ (by kernel_rfl)
theorem tu3 : Tryd.prog.underlying 3 = some (.int .i64) := by kernel_rfl
theorem tu4 : Tryd.prog.underlying 4 = some .bool := by kernel_rfl
theorem tu22 : Tryd.prog.underlying 22 = some (.slice 41) := by kernel_rfl
theorem tc35 : Tryd.prog.cellsOf 41 = 2 := by kernel_rfl
theorem tc3 : Tryd.prog.cellsOf 3 = 1 := by kernel_rfl
theorem tb35 : Tryd.prog.bytesOf 41 = 16 := by kernel_rfl
section
variable {H : Type} {enc : TypeId × Value → H} {P : Program} {w w' : World} {base : Nat} {spare : Nat → Bool} {held : Bool}
theorem trodAll_later : ∀ {ts : List TypeId} {vs : List Value} {ds : List (DataW H)} {ps : List MemPlace}, DataW.TrodAll enc P w base spare held ts vs ds ps → (∀ p ∈ ps, w.sameAt w' p) → DataW.TrodAll enc P w' base spare held ts vs ds ps
  | [], [], [], _, h, _ => h
  | _ :: _, _ :: _, _ :: _, _, ⟨p, q, ⟨n, h1⟩, h2, e⟩, hs => ⟨p, q, ⟨n, DataW.trod_carry n _ _ _ h1 (fun x hx => hs x (by rw [e]; exact List.mem_append_left _ hx))⟩, trodAll_later h2 (fun x hx => hs x (by rw [e]; exact List.mem_append_right _ hx)), e⟩
end
/-- A law's end: true, and all as it was. -/
theorem law_post {H : Type} {enc : TypeId × Value → H} {fn : Func} {s : ChangeSpec} {W W' : World} {args : Array Value} {ds gs : List (DataW H)} {before : List MemPlace} (hv : s.vars = []) (hrt : fn.resultTypes = #[4])
    (hpt : ∀ t ∈ fn.params.toList, t < Tryd.prog.types.size) (hW : DataW.Whole enc Tryd.prog fn.params.toList s.vars false W args.toList ds gs before)
    (hs : (s.fn H (ds ++ gs)).results = [.lit (.bool true)] ∧ (s.fn H (ds ++ gs)).args = ds ∧ (s.fn H (ds ++ gs)).vars = []) (hB : Below W.heap.size W W') : s.post enc Tryd.prog fn false true false false W args (.bool true) W' := by
  have hW' := hW
  obtain ⟨p, q, hA, hV, rfl, hfz, hnd⟩ := hW
  have hlt := hW'.lt
  rw [hv] at hV
  obtain ⟨rfl, rfl⟩ := trodVars_none hV
  obtain ⟨h1, h2, h3⟩ := hs
  refine ⟨ds, [], p ++ [], [], p, [], hW', ?_, ?_, ?_, hB.frame _, fun h => by cases h⟩
  · rw [h1, hrt]
    exact trodAll_mk1 (shut_bool tu4 true)
  · rw [h2]
    refine DataW.TrodAll.respare tkids tfull hpt (trodAll_later hA fun x hx => hB.same (hlt x (List.mem_append_left _ hx))) fun x hx => ?_
    simpa using hlt x (List.mem_append_left _ hx)
  · rw [h3, hv]; rfl
/-- What lies there already. -/
abbrev Old (W : World) (b : Nat) : Prop := b < W.heap.size
section
variable {H : Type} {enc : TypeId × Value → H} {W : World} {held : Bool}
theorem arg_int {v : Value} {d : DataW H} {p : List MemPlace} {r : Reach} {b0 : Nat} (hval : Value.okWide Tryd.prog W r b0 3 v) (h : DataW.Trod enc Tryd.prog W 0 (fun _ => true) held 3 v d p) : ∃ n : Int, RelD W (Old W) (I .i64 n) v ∧ (-9223372036854775808 ≤ n ∧ n ≤ 9223372036854775807) := by
  obtain ⟨n, rfl, _, _, hw⟩ := open_int tu3 hval h
  exact ⟨n, .c _, by simpa [Lit.wf, IntKind.min, IntKind.max, IntKind.signed, IntKind.bits] using hw⟩
theorem arg_lines {v : Value} {d : DataW H} {p : List MemPlace} {r : Reach} {b0 : Nat} (hval : Value.okWide Tryd.prog W r b0 22 v) (h : DataW.Trod enc Tryd.prog W 0 (fun _ => true) held 22 v d p) :
    ∃ l : List (Int × Int), RelD W (Old W) (.l (l.map lnD)) v ∧ ((d = .nil ∧ l = []) ∨ ∃ elems spare, d = .slice elems spare ∧ elems.length = l.length) := by
  obtain ⟨a0, len, cap, rfl⟩ := okWide_slice tu22 hval
  obtain ⟨fuel, hf⟩ := h
  rcases open_slice_pairs tu22 Tryd.underlying41 tc35 rfl rfl tc3 tc3 hf with ⟨hcs, hx⟩ | ⟨a, len', cap', m, n, V0, V1, D0, D1, P0, P1, hcs, _, hl, hm, hmm, hx, hc⟩
  · simp [Value.cells] at hcs
    obtain ⟨rfl, rfl, rfl⟩ := hcs
    simp (implicitDefEqProofs := false) (dsimp := false) only [Prod.mk.injEq] at hx
    exact ⟨[], .nl none 0, .inl ⟨hx.1, rfl⟩⟩
  · simp [Value.cells] at hcs
    obtain ⟨rfl, rfl, rfl⟩ := hcs
    simp (implicitDefEqProofs := false) (dsimp := false) only [Prod.mk.injEq] at hx
    simp (implicitDefEqProofs := false) (dsimp := false) only [if_true] at hmm
    subst hmm
    have hint : ∀ i, ∃ q : Int × Int, i < len → W.cell? (a.add (i * 2)) = some (.int .i64 q.1) ∧ W.cell? (a.add (i * 2 + 1)) = some (.int .i64 q.2) := by
      intro i
      by_cases hi : i < len
      · obtain ⟨h1, h2, h3, h4⟩ := hc i (by omega)
        obtain ⟨x, e1, _, _⟩ := DataW.trod_int tu3 h3
        obtain ⟨y, e2, _, _⟩ := DataW.trod_int tu3 h4
        simp (implicitDefEqProofs := false) (dsimp := false) only [List.cons.injEq, and_true] at e1 e2
        exact ⟨(x, y), fun _ => ⟨by rw [h1, e1], by rw [h2, e2]⟩⟩
      · exact ⟨(0, 0), fun h => absurd h hi⟩
    obtain ⟨Q, hQ⟩ : ∃ Q : Nat → Int × Int, ∀ i, i < len → W.cell? (a.add (i * 2)) = some (.int .i64 (Q i).1) ∧ W.cell? (a.add (i * 2 + 1)) = some (.int .i64 (Q i).2) := ⟨fun i => Classical.choose (hint i), fun i => Classical.choose_spec (hint i)⟩
    refine ⟨(List.range len).map Q, ?_, .inr ⟨_, _, hx.1, by simp⟩⟩
    by_cases h0 : len = 0
    · subst h0; exact .nl _ _
    have hxs : ∀ (i : Nat) (x : D), (((List.range len).map Q).map lnD)[i]? = some x → i < len ∧ x = lnD (Q i) := by
      intro i x hx
      rw [List.getElem?_map, List.getElem?_map] at hx
      by_cases hi : i < len
      · rw [List.getElem?_range hi] at hx
        simp at hx
        exact ⟨hi, hx.symm⟩
      · rw [List.getElem?_eq_none (by simp; omega)] at hx; cases hx
    have hlen : len = (((List.range len).map Q).map lnD).length := by simp
    have hrel := RelD.l (w := W) (N := Old W) (((List.range len).map Q).map lnD) a _ 2 (fun i k => if k = 0 then .int .i64 (Q i).1 else .int .i64 (Q i).2) (by rw [← hlen]; exact hl) ?_ ?_ ?_ ?_
    · rw [← hlen] at hrel
      exact hrel
    · have := (hQ 0 (by omega)).1
      unfold World.cell? at this
      split at this
      · rename_i C et fr hb
        have hb' := (Array.getElem?_eq_some_iff.1 hb).1
        rw [add_block] at hb'
        exact hb'
      · cases this
    · intro i x hx
      obtain ⟨_, rfl⟩ := hxs i x hx
      rfl
    · intro i k x y hx hy
      obtain ⟨hi, rfl⟩ := hxs i x hx
      match k, hy with
      | 0, hy => exact (hQ i hi).1
      | 1, hy => exact (hQ i hi).2
    · intro i k x y hx hy
      obtain ⟨hi, rfl⟩ := hxs i x hx
      match k, hy with
      | 0, hy => cases hy; exact .c _
      | 1, hy => cases hy; exact .c _
theorem lines_len {ts : List TypeId} {ds : List (DataW H)} {j : Nat} {l : List (Int × Int)} (h : (DataW.weightsEach Tryd.prog ts ds).all (· ≤ reachBytes) = true) (ht : ts[j]? = some 22) {d : DataW H} (hd : ds[j]? = some d)
    (hl : (d = .nil ∧ l = []) ∨ ∃ elems spare, d = .slice elems spare ∧ elems.length = l.length) : l.length < 2 ^ 43 := by
  rcases hl with ⟨_, rfl⟩ | ⟨elems, spare, rfl, e⟩
  · simp
  · have := sized_slice h ht hd tu22
    rw [tb35] at this
    have := reachBytes_lt
    omega
end
theorem argsOK_nil (w : World) (N : Nat → Prop) : ArgsOK w N [] [] := ⟨rfl, fun k d v h => by simp at h⟩
theorem argsOK_cons {w : World} {N : Nat → Prop} {d : D} {ds : List D} {v : Value} {vs : List Value} (h : RelD w N d v) (hs : ArgsOK w N ds vs) : ArgsOK w N (d :: ds) (v :: vs) :=
  ⟨by simp [hs.1], fun k d' v' hd hv => by
    cases k with
    | zero => simp at hd hv; subst hd; subst hv; exact h
    | succ k => exact hs.2 k d' v' (by simpa using hd) (by simpa using hv)⟩
theorem Tryd.et : Tryd.prog.globalNamed "errors.errorType" = some 0 := by kernel_rfl
theorem Tryd.rt : (Tryd.prog.cutTypes.find? (·.1 == "internal/reflectlite.rtype")).map (·.2) = some 142 := by kernel_rfl
theorem Tryd.oneRow : ((List.range 184).filter fun t => Tryd.prog.rowNamed t [101, 114, 114, 111, 114]) = [29] := by kernel_rfl
theorem Tryd.tsize : Tryd.prog.types.size = 184 := by kernel_rfl
theorem hnd_at : hnd Tryd.prog = .iface (142) (.agg #[.pointer (some ⟨1, 29, none⟩)]) := by kernel_rfl
/-- The listed variable's one cell. -/
theorem gl_of_laid {W : World} (h : laidMetH Tryd.prog [("errors.errorType", .iface "internal/reflectlite.rtype" (.agg [.ptr (.lit (.string [101, 114, 114, 111, 114]))]))] W) : Gl Tryd.prog W := fun g hg => by
  obtain rfl := Option.some.inj (Tryd.et.symm.trans hg)
  rw [hnd_at]
  have h' : laidMet Tryd.prog [] W ∧ handlesMet Tryd.prog [("errors.errorType", .iface "internal/reflectlite.rtype" (.agg [.ptr (.lit (.string [101, 114, 114, 111, 114]))]))] W := h
  obtain ⟨name, u, ty, e1, e2, e3, e4, e5⟩ := h'.2 _ (List.mem_singleton.2 rfl)
  have en : name = [101, 114, 114, 111, 114] := (Option.some.inj e1).symm
  subst en
  obtain rfl := Option.some.inj (Tryd.rt.symm.trans e2)
  have hm : ty ∈ (List.range 184).filter fun t => Tryd.prog.rowNamed t [101, 114, 114, 111, 114] := List.mem_filter.2 ⟨List.mem_range.2 (by rw [← Tryd.tsize]; exact e3), e4⟩
  rw [Tryd.oneRow] at hm
  obtain rfl := List.mem_singleton.1 hm
  have hh : typeHandle Tryd.prog (29) = .pointer (some ⟨1, 29, none⟩) := by kernel_rfl
  rw [hh] at e5
  simpa using World.var?_cell Tryd.et e5 0
/-- A law's call. -/
theorem law_calls {f : FuncId} {ds : List D} (h : FnD Tryd.prog f ds (Bo true)) (W : World) (hg : Gl Tryd.prog W) (vs : List Value) (ha : ArgsOK W (Old W) ds vs) : Calls Tryd.prog f vs.toArray W fun e W' => e = .returned (.bool true) ∧ Below W.heap.size W W' := by
  have := callsIn_wide.1 (h.2 W (Old W) vs hg (fun b h => h) ha)
  refine this.mono fun e W' ⟨r, v, hr, he, hB, hres⟩ => ?_
  subst hr
  have hv : v = .bool true := relD_c hres
  exact ⟨by rw [he, hv], hB⟩
end Go.Proofs

namespace Go.Proofs
open Go.Aw
set_option linter.unusedSimpArgs false
set_option maxRecDepth 10000
def flipI (p : Int × Int) : Int × Int := (p.2, p.1)
/-- Lines from the last one on, each the other way. -/
def backI (l : List (Int × Int)) : List (Int × Int) := l.reverse.map flipI
end Go.Proofs

namespace Go.Proofs
open Go.Aw
set_option linter.unusedSimpArgs false
set_option maxRecDepth 10000
theorem nD_ints (s : List Nat) : s.map nD = (s.map Int.ofNat).map (I .i64) := by rw [List.map_map]; rfl
theorem firstErr_iff {f : Int × Int → Int} {l : List (Int × Int)} : firstErr f l = 0 ↔ ∀ p ∈ l, f p = 0 := by
  refine ⟨firstErr_zero, fun h => ?_⟩
  induction l with
  | nil => rfl
  | cons p l ih =>
    simp (implicitDefEqProofs := false) (dsimp := false) only [firstErr, h p (by simp), if_true]
    exact ih fun q hq => h q (by simp [hq])
end Go.Proofs

namespace Go.Proofs
open Go.Aw
set_option linter.unusedSimpArgs false
set_option maxRecDepth 10000
theorem wOr_lt {s : List Nat} (h : ∀ j, s.getD j default < 2 ^ 64) (k j : Nat) : wOr s k j < 2 ^ 64 := by
  unfold wOr
  split
  · exact Nat.or_lt_two_pow (h j) (h k)
  · exact h j
theorem lt_getD {s : List Nat} (h : ∀ x ∈ s, x < 2 ^ 64) (j : Nat) : s.getD j default < 2 ^ 64 := by
  rw [List.getD_eq_getElem?_getD]
  cases hx : s[j]? with
  | none => decide
  | some y => exact h y (List.mem_of_getElem? hx)
theorem warS_lt {n : Nat} {l : List (Nat × Nat)} (hn : n ≤ 64) (hg : Good n l) (m : Nat) : (warS n (outS n l) m).length = n ∧ ∀ j, (warS n (outS n l) m).getD j default < 2 ^ 64 := by
  induction m with
  | zero => exact ⟨by simpa [warS] using outS_len n l, fun j => lt_getD (outS_lt' hn hg) j⟩
  | succ m ih =>
    have e : warS n (outS n l) (m + 1) = warK n (warS n (outS n l) m) m := range_foldl _ _ _
    rw [e]
    obtain ⟨h1, h2⟩ := warK_get n _ m ih.1
    exact ⟨h1, fun j => by rw [h2]; exact wOr_lt ih.2 m j⟩
theorem creach_spec (n : Nat) (l : List (Nat × Nat)) (hpre : n ≤ 64 ∧ l.length < 2 ^ 62 ∧ Good n l) : FnR Tryd.prog 98 [I .i64 (n : Int), .l (l.map lnN)] 1 ((war n l).map U) := by
  obtain ⟨hn, hl, hg⟩ := hpre
  have hout : n ≤ 64 ∧ l.length < 2 ^ 62 ∧ ∀ p ∈ l, p.1 < n ∧ p.2 < 64 := ⟨hn, hl, fun p hp => by have := hg p hp; omega⟩
  refine FnR.go Tryd.func98 rfl rfl Tryd.results98 Tryd.ntmps98 ?_
  simp (implicitDefEqProofs := false) (dsimp := false) only [↓aw_seq, ↓aw_reg, ↓Qseq_n, ↓ops_nil, ↓ops_cons, ↓eval_tmp, ↓eval_nil, ↓eval_func, ↓put_some, ↓op_move, ↓op_assign, ↓op_call, isD_d, ↓fnK_f, ↓call_H, ↓callK_H, ↓allT_nil, ↓allT_cons, ↓td_d, List.getD_cons_zero, List.getD_cons_succ, List.set_cons_zero, List.set_cons_succ, List.cons_append, List.nil_append, List.append_nil, List.map_cons, List.map_nil, List.length_cons, List.length_nil, List.all_cons, List.all_nil, Bool.and_self, Nat.reduceAdd, Nat.reduceSub, Nat.reduceMul, Nat.zero_add, List.replicate, evK_go, reduceIte, Nat.reduceEqDiff, Nat.reduceLT, and_self, Int.zero_add]
  simp (implicitDefEqProofs := false) (dsimp := false) only [out_call, rflat_U, ↓aw_seq, ↓aw_block, ↓aw_loop, ↓aw_reg, ↓Qseq_n, ↓ops_nil, ↓ops_cons, ↓eval_tmp, ↓eval_int, ↓put_some, ↓op_move, ↓op_assign, ↓addRow_mk, ↓st_rw, List.getD_cons_zero, List.getD_cons_succ, List.set_cons_zero, List.set_cons_succ, List.nil_append, List.length_nil, List.length_map, Bool.true_and, Bool.or_true, Nat.reduceAdd, Nat.reduceSub, Nat.reduceMul, evK_go, reduceIte, Nat.reduceEqDiff, Nat.reduceLT, true_and]
  refine OrH.l (OrH.l ⟨hout, ?_⟩)
  have h0 := outS_len n l
  simp (implicitDefEqProofs := false) (dsimp := false) only [h0]
  refine loopW (fun k : Nat => { tm := slots 38 [(0, .d (I .i64 (n : Int))), (5, .o 0 0 n), (11, .d (I .i64 (n : Int))), (12, .d (I .i64 k))], bx := [], rw := [some ⟨1, (warS n (outS n l) k).map U⟩] })
    (fun k => k ≤ n) (fun k => n - k) 0 (by simp) ?_ ?_
  · refine Wkn.of [] [some 0] ?_
    simp (implicitDefEqProofs := false) (dsimp := false) only [warS, List.getD_cons_zero, List.set_cons_zero, List.set_cons_succ, Bool.and_true, Bool.true_and, Bool.and_self, Nat.reduceAdd, Nat.reduceSub, Nat.reduceMul, List.replicate, evK_go, reduceIte, Nat.reduceEqDiff, Nat.reduceLT, and_self, true_and, and_true, List.foldl_cons, List.foldl_nil, Int.cast_ofNat_Int, slots, wkL_nil, wkL_cons, wkB_nil, wkR_nil, wkR_some, wkV_j, wkV_d, wkV_o, frz_d, oK_zs, reduceCtorEq, Option.some.injEq]
    rfl
  · intro k hk
    simp (implicitDefEqProofs := false) (dsimp := false) only [slots, ↓aw_cond, ↓aw_seq, ↓aw_reg, ↓Qseq_n, ↓ops_nil, ↓ops_cons, ↓eval_tmp, ↓put_some, ↓bK_b, ↓binE_i, ↓bi_lss, ↓op_bin, List.getD_cons_zero, List.getD_cons_succ, List.set_cons_zero, List.set_cons_succ, Nat.reduceAdd, Nat.reduceSub, Nat.reduceMul, List.replicate, evK_go, reduceIte, Nat.reduceEqDiff, Nat.reduceLT, List.foldl_cons, List.foldl_nil, Int.ofNat_lt]
    obtain ⟨hs1, hs2⟩ := warS_lt hn hg k
    refine cdK_dec (fun h => ?_) (fun h => ?_)
    · simp (implicitDefEqProofs := false) (dsimp := false) only [↓aw_seq, ↓aw_block, ↓aw_skip, ↓aw_loop, ↓aw_reg, ↓Qseq_n, ↓ops_nil, ↓ops_cons, ↓eval_tmp, ↓eval_int, ↓put_some, ↓op_move, ↓op_assign, List.getD_cons_zero, List.getD_cons_succ, List.set_cons_zero, List.set_cons_succ, Nat.reduceAdd, Nat.reduceSub, Nat.reduceMul, evK_go, reduceIte, Nat.reduceEqDiff, Nat.reduceLT]
      refine loopW (fun i : Nat => { tm := slots 38 [(0, .d (I .i64 (n : Int))), (5, .o 0 0 n), (6, .d (I .i64 k)), (11, .d (I .i64 (n : Int))), (12, .d (I .i64 k)), (15, .d (I .i64 (n : Int))), (16, .d (I .i64 i))], bx := [], rw := [some ⟨1, ((List.range i).foldl (warI k) (warS n (outS n l) k)).map U⟩] })
        (fun i => i ≤ n) (fun i => n - i) 0 (by simp) ?_ ?_
      · refine Wkn.of [] [some 0] ?_
        simp (implicitDefEqProofs := false) (dsimp := false) only [List.getD_cons_zero, List.set_cons_zero, List.set_cons_succ, Bool.and_true, Bool.true_and, Bool.and_self, Nat.reduceAdd, Nat.reduceSub, Nat.reduceMul, List.replicate, evK_go, reduceIte, Nat.reduceEqDiff, Nat.reduceLT, and_self, true_and, and_true, List.foldl_cons, List.foldl_nil, Int.cast_ofNat_Int, slots, wkL_nil, wkL_cons, wkB_nil, wkR_nil, wkR_some, wkV_j, wkV_d, wkV_o, frz_d, oK_zs, reduceCtorEq, Option.some.injEq]
        rfl
      · intro i hi
        simp (implicitDefEqProofs := false) (dsimp := false) only [slots, ↓aw_cond, ↓aw_seq, ↓aw_reg, ↓Qseq_n, ↓ops_nil, ↓ops_cons, ↓eval_tmp, ↓put_some, ↓bK_b, ↓binE_i, ↓bi_lss, ↓op_bin, List.getD_cons_zero, List.getD_cons_succ, List.set_cons_zero, List.set_cons_succ, Nat.reduceAdd, Nat.reduceSub, Nat.reduceMul, List.replicate, evK_go, reduceIte, Nat.reduceEqDiff, Nat.reduceLT, List.foldl_cons, List.foldl_nil, Int.ofNat_lt]
        obtain ⟨hi1, hi2⟩ := warIs_get k (warS n (outS n l) k) i (by omega)
        have ef := range_foldl (warI k) (warS n (outS n l) k) i
        refine cdK_dec (fun hin => ?_) (fun hin => ?_)
        · have hlt : ∀ j, ((List.range i).foldl (warI k) (warS n (outS n l) k)).getD j default < 2 ^ 64 := fun j => by
            rw [hi2]; split
            · exact wOr_lt hs2 k j
            · exact hs2 j
          generalize (List.range i).foldl (warI k) (warS n (outS n l) k) = s at hi1 hlt ef ⊢
          have hil : i < s.length := by omega
          have hkl : k < s.length := by omega
          have hlti := hlt i
          have hltk := hlt k
          simp (implicitDefEqProofs := false) (dsimp := false) only [hin, hil, hasS_call, hlti, ↓optK_some, ↓rwK_mk_, ↓atK_H, ↓atH_map, ↓nthK_H, ↓nthH_zero, ↓aw_cond, ↓aw_seq, ↓aw_block, ↓aw_skip, ↓aw_reg, ↓Qseq_n, ↓ops_nil, ↓ops_cons, ↓eval_tmp, ↓eval_func, ↓put_some, ↓bK_b, ↓iK_i, ↓ldK_e, ↓iaK_o, ↓op_move, ↓op_assign, ↓op_load, ↓op_ia, ↓op_call, isD_d, ↓fnK_f, ↓call_H, ↓callK_H, ↓allT_nil, ↓allT_cons, ↓td_d, ↓row_sz, ↓row_xs, ↓cells_c, ↓sl99, ↓ty102, List.getD_cons_zero, List.getD_cons_succ, List.set_cons_zero, List.set_cons_succ, List.append_nil, List.all_cons, List.all_nil, Bool.true_and, Bool.and_self, Bool.true_or, Nat.reduceAdd, Nat.reduceSub, Nat.reduceMul, Nat.zero_add, Int.toNat_natCast, evK_go, reduceIte, decide_true, Nat.reduceEqDiff, Nat.reduceLT, and_self, true_and, Int.zero_add, Int.ofNat_lt, Int.natCast_nonneg]
          refine OrH.l (OrH.l ⟨by omega, ?_⟩)
          refine cdK_split (fun hb => ?_) (fun hb => ?_)
          · simp (implicitDefEqProofs := false) (dsimp := false) only [hin, hil, hkl, hlti, hltk, h, ↓optK_some, ↓rwK_mk_, ↓atK_H, ↓atH_map, ↓nthK_H, ↓nthH_zero, ↓aw_reg, ↓aw_draw, ↓Qseq_n, ↓Qblk_n, ↓ops_nil, ↓ops_cons, ↓eval_tmp, ↓eval_int, ↓put_some, ↓put_none, ↓iK_i, ↓dK_d, ↓ev_move, ↓ev_load, ↓ev_bin, ↓ev_ia, ↓binE_i, ↓bi_add, ↓bi_or, ↓in_i64, ↓ldK_e, ↓iaK_o, ↓op_move, ↓op_bin, ↓op_store, ↓draw_H, ↓h_cons, ↓ldH_t, ↓ldH_n, ↓q_move, ↓q_load, ↓q_bin, ↓q_ia, ↓il_move, ↓il_load, ↓il_bin, ↓il_ia, ↓il_store, ↓setRow_mk, ↓row_sz, ↓row_xs, ↓cells_c, ↓one_i, ↓st_e, ↓sl99, ↓ty102, List.getD_cons_zero, List.getD_cons_succ, List.set_cons_zero, List.set_cons_succ, List.length_cons, List.length_nil, List.all_cons, List.all_nil, Bool.true_and, Bool.and_self, Nat.reduceAdd, Nat.reduceSub, Nat.reduceMul, Nat.zero_add, Int.toNat_natCast, evK_go, reduceIte, Nat.reduceEqDiff, Nat.reduceLT, and_self, true_and, Int.zero_add, Int.ofNat_lt, Int.natCast_nonneg]
            refine OrH.l ⟨DrawH.of follows_mixed (by kernel_rfl), ?_⟩
            refine ⟨by omega, i + 1, by omega, by omega, ?_⟩
            refine Wkn.of [] [some 0] ?_
            simp (implicitDefEqProofs := false) (dsimp := false) only [ef, warI, hb, if_true, List.map_set, List.getD_cons_zero, List.set_cons_zero, List.set_cons_succ, Bool.and_self, Nat.reduceAdd, Nat.reduceSub, Nat.reduceMul, List.replicate, evK_go, reduceIte, Nat.reduceEqDiff, Nat.reduceLT, and_self, List.foldl_cons, List.foldl_nil, Int.cast_ofNat_Int, Int.natCast_add, slots, wkL_nil, wkL_cons, wkB_nil, wkR_nil, wkR_some, wkV_j, wkV_d, wkV_o, frz_d, oK_zs, reduceCtorEq]
          · simp (implicitDefEqProofs := false) (dsimp := false) only [↓aw_skip, ↓aw_reg, ↓Qseq_n, ↓Qblk_n, ↓ops_nil, ↓ops_cons, ↓eval_tmp, ↓eval_int, ↓put_some, ↓binE_i, ↓bi_add, ↓in_i64, ↓op_move, ↓op_bin, List.getD_cons_zero, List.getD_cons_succ, List.set_cons_zero, List.set_cons_succ, Nat.reduceAdd, Nat.reduceSub, Nat.reduceMul, evK_go, reduceIte, Nat.reduceEqDiff, Nat.reduceLT]
            refine ⟨by omega, i + 1, by omega, by omega, ?_⟩
            refine Wkn.of [] [some 0] ?_
            simp (implicitDefEqProofs := false) (dsimp := false) only [ef, warI, hb, Bool.false_eq_true, if_false, List.getD_cons_zero, List.set_cons_zero, List.set_cons_succ, Bool.and_self, Nat.reduceAdd, Nat.reduceSub, Nat.reduceMul, List.replicate, evK_go, reduceIte, Nat.reduceEqDiff, Nat.reduceLT, and_self, List.foldl_cons, List.foldl_nil, Int.cast_ofNat_Int, Int.natCast_add, slots, wkL_nil, wkL_cons, wkB_nil, wkR_nil, wkR_some, wkV_j, wkV_d, wkV_o, frz_d, oK_zs, reduceCtorEq]
        · obtain rfl : i = n := by omega
          simp (implicitDefEqProofs := false) (dsimp := false) only [↓optK_some, ↓rwK_mk_, ↓aw_seq, ↓aw_exit, ↓aw_ret, ↓aw_reg, ↓Qseq_n, ↓Qseq_x, ↓Qblk_n, ↓Qblk_x, ↓ops_nil, ↓ops_cons, ↓eval_tmp, ↓eval_int, ↓put_some, ↓binE_i, ↓bi_add, ↓in_i64, ↓op_move, ↓op_assign, ↓op_bin, ↓row_sz, ↓row_xs, ↓Qrow_r, ↓rowK_o, List.getD_cons_zero, List.getD_cons_succ, List.set_cons_zero, List.set_cons_succ, Bool.true_and, Nat.reduceAdd, Nat.reduceSub, Nat.reduceMul, evK_go, reduceIte, decide_false, Nat.reduceEqDiff, Nat.reduceLT, true_and, Nat.lt_irrefl]
          refine ⟨by omega, k + 1, by omega, by omega, ?_⟩
          refine Wkn.of [] [some 0] ?_
          have e : warS i (outS i l) (k + 1) = warK i (warS i (outS i l) k) k := range_foldl _ _ _
          simp (implicitDefEqProofs := false) (dsimp := false) only [e, warK, List.getD_cons_zero, List.set_cons_zero, List.set_cons_succ, Bool.and_self, Nat.reduceAdd, Nat.reduceSub, Nat.reduceMul, List.replicate, evK_go, reduceIte, Nat.reduceEqDiff, Nat.reduceLT, and_self, List.foldl_cons, List.foldl_nil, Int.cast_ofNat_Int, Int.natCast_add, slots, wkL_nil, wkL_cons, wkB_nil, wkR_nil, wkR_some, wkV_j, wkV_d, wkV_o, frz_d, oK_zs, reduceCtorEq]
    · obtain rfl : k = n := by omega
      simp (implicitDefEqProofs := false) (dsimp := false) only [↓optK_some, ↓rwK_mk_, ↓aw_seq, ↓aw_exit, ↓aw_ret, ↓aw_reg, ↓Qseq_n, ↓Qseq_x, ↓Qblk_x, ↓ops_nil, ↓ops_cons, ↓eval_tmp, ↓put_some, ↓op_move, ↓op_assign, ↓row_sz, ↓row_xs, ↓Qrow_r, ↓rowK_o, List.getD_cons_zero, List.getD_cons_succ, List.set_cons_zero, List.set_cons_succ, Bool.true_and, Nat.reduceAdd, Nat.reduceSub, Nat.reduceMul, evK_go, reduceIte, decide_false, Nat.reduceEqDiff, Nat.reduceLT, true_and, Nat.lt_irrefl]
      exact List.take_of_length_le (by simp [hs1])
theorem creach_callD (n : Nat) (l : List (Nat × Nat)) (pure : Bool) (σ : St) (dst : Option Tmp) (K : St → Prop) : CallH Tryd.prog 98 [I .i64 (n : Int), .l (l.map lnN)] pure σ dst (.mk : Hid K) = OrH ((n ≤ 64 ∧ l.length < 2 ^ 62 ∧ Good n l) ∧ (pure || D.flat (.l ((war n l).map U))) = true ∧ evK (σ.put dst (.d (.l ((war n l).map U)))) (.mk : Hid K)) (.mk : Hid (CallH Tryd.prog 98 [I .i64 (n : Int), .l (l.map lnN)] pure σ dst (.mk : Hid K))) := CallH.eq (fun h => ((fun h => creach_spec n l h) h).data) pure σ dst K
end Go.Proofs

namespace Go.Proofs
open Go.Aw
set_option linter.unusedSimpArgs false
set_option maxRecDepth 10000
/-- Where ways go from each point. -/
def closeAll (n : Int) (l : List (Int × Int)) : List (List Int) := if chk n l = 0 then (war n.toNat (natL l)).map ptsI else []
theorem Ok.cr {n : Int} {l : List (Int × Int)} (h : Ok n l) : n.toNat ≤ 64 ∧ (natL l).length < 2 ^ 62 ∧ Good n.toNat (natL l) := ⟨h.out.1, h.out.2.1, h.good⟩
theorem call_spec (n : Int) (l : List (Int × Int)) (hpre : l.length < 2 ^ 62) : FnD Tryd.prog 52 [I .i64 n, .l (l.map lnD)] (.t [.l ((closeAll n l).map liD), erD (chk n l)]) := by
  refine FnD.go Tryd.func52 rfl rfl Tryd.results52 Tryd.ntmps52 ?_
  simp (implicitDefEqProofs := false) (dsimp := false) only [↓aw_seq, ↓aw_reg, ↓Qseq_n, ↓ops_nil, ↓ops_cons, ↓eval_tmp, ↓eval_nil, ↓eval_func, ↓put_some, ↓op_move, ↓op_assign, ↓op_call, isD_d, ↓fnK_f, ↓call_H, ↓callK_H, ↓allT_nil, ↓allT_cons, ↓td_d, List.getD_cons_zero, List.getD_cons_succ, List.set_cons_zero, List.set_cons_succ, List.cons_append, List.nil_append, List.append_nil, List.map_cons, List.map_nil, List.length_cons, List.length_nil, List.all_cons, List.all_nil, Bool.and_self, Nat.reduceAdd, Nat.reduceSub, Nat.reduceMul, Nat.zero_add, List.replicate, evK_go, reduceIte, Nat.reduceEqDiff, Nat.reduceLT, and_self, Int.zero_add]
  simp (implicitDefEqProofs := false) (dsimp := false) only [gcheck_call, eval_nilI, ↓er_neq, er_flat, ↓cdK_not, ↓aw_cond, ↓aw_seq, ↓aw_reg, ↓Qseq_n, ↓ops_nil, ↓ops_cons, ↓eval_tmp, ↓put_some, ↓bK_b, ↓op_move, ↓op_assign, ↓op_bin, List.getD_cons_zero, List.getD_cons_succ, List.set_cons_zero, List.set_cons_succ, Bool.true_and, Bool.or_true, Nat.reduceAdd, Nat.reduceSub, Nat.reduceMul, evK_go, reduceIte, Nat.reduceEqDiff, Nat.reduceLT, true_and]
  refine OrH.l (OrH.l ⟨hpre, ?_⟩)
  refine cdK_dec (fun hc => ?_) (fun hc => ?_)
  rotate_left
  · simp (implicitDefEqProofs := false) (dsimp := false) only [closeAll, hc, ↓aw_seq, ↓aw_ret, ↓aw_reg, ↓Qseq_n, ↓Qseq_r, ↓Qret_r, ↓ops_nil, ↓ops_cons, ↓eval_tmp, ↓eval_nil, ↓put_some, ↓op_move, ↓op_assign, ↓td_d, ↓td_nl, ↓ret_2, List.getD_cons_zero, List.getD_cons_succ, List.set_cons_zero, List.set_cons_succ, List.map_nil, Nat.reduceAdd, Nat.reduceSub, Nat.reduceMul, evK_go, reduceIte, decide_false, Bool.not_false, Nat.reduceEqDiff, Nat.reduceLT]
  have ok := chk_ok hc
  rw [show closeAll n l = (war n.toNat (natL l)).map ptsI from if_pos hc, lnD_nat ok.rng, hc]
  have hcr := ok.cr
  have h8 := ok.hi
  have e0 := ok.n0
  clear ok hc hpre
  generalize n.toNat = m at *
  subst e0
  generalize natL l = L at *
  have hwl := war_len hcr.2.2
  have hwt := war_lt hcr.1 hcr.2.2
  simp (implicitDefEqProofs := false) (dsimp := false) only [creach_callD, hcr, ↓aw_seq, ↓aw_block, ↓aw_skip, ↓aw_loop, ↓aw_reg, ↓Qseq_n, ↓ops_nil, ↓ops_cons, ↓eval_tmp, ↓eval_int, ↓eval_nil, ↓eval_func, ↓put_some, ↓lenK_l, ↓op_move, ↓op_assign, ↓op_len, ↓op_call, isD_d, ↓fnK_f, ↓call_H, ↓callK_H, ↓allT_nil, ↓allT_cons, ↓td_d, ↓sl99, List.getD_cons_zero, List.getD_cons_succ, List.set_cons_zero, List.set_cons_succ, List.append_nil, List.length_map, List.all_cons, List.all_nil, Bool.true_and, Bool.and_self, Bool.true_or, Nat.reduceAdd, Nat.reduceSub, Nat.reduceMul, evK_go, reduceIte, decide_true, Bool.not_true, Nat.reduceEqDiff, Nat.reduceLT, and_self, true_and]
  refine OrH.l (OrH.l ?_)
  generalize war m L = W at hwl hwt ⊢
  simp (implicitDefEqProofs := false) (dsimp := false) only [hwl]
  refine loopW (fun k : Nat => { tm := slots 31 [(7, .o 0 0 k), (18, .d (.l (W.map U))), (19, .d (I .i64 (m : Int))), (20, .d (I .i64 k))], bx := [], rw := [some ⟨1, ((W.take k).map ptsI).map liD⟩] })
    (fun k => k ≤ m) (fun k => m - k) 0 (by simp) ?_ ?_
  · refine Wkn.of [] [none] ?_
    simp (implicitDefEqProofs := false) (dsimp := false) only [↓row_xs, List.set_cons_zero, List.set_cons_succ, List.map_nil, Bool.and_self, Nat.reduceAdd, Nat.reduceSub, Nat.reduceMul, List.replicate, evK_go, reduceIte, Nat.reduceEqDiff, Nat.reduceLT, and_self, List.take_zero, List.foldl_cons, List.foldl_nil, Int.cast_ofNat_Int, slots, wkL_nil, wkL_cons, wkB_nil, wkR_nil, wkR_new, wkV_j, wkV_d, nlK_nl, wkV_o, frz_d, oK_zn, reduceCtorEq]
  · intro k hk
    simp (implicitDefEqProofs := false) (dsimp := false) only [slots, ↓aw_cond, ↓aw_seq, ↓aw_reg, ↓Qseq_n, ↓ops_nil, ↓ops_cons, ↓eval_tmp, ↓put_some, ↓bK_b, ↓binE_i, ↓bi_lss, ↓op_bin, List.getD_cons_zero, List.getD_cons_succ, List.set_cons_zero, List.set_cons_succ, Nat.reduceAdd, Nat.reduceSub, Nat.reduceMul, List.replicate, evK_go, reduceIte, Nat.reduceEqDiff, Nat.reduceLT, List.foldl_cons, List.foldl_nil, Int.ofNat_lt]
    refine cdK_dec (fun h => ?_) (fun h => ?_)
    · have hkW : k < W.length := by omega
      have hlt := hwt _ (getD_mem hkW)
      simp (implicitDefEqProofs := false) (dsimp := false) only [h, hkW, hlt, list_callD, ↓optK_some, ↓rwK_mk_, ↓atK_H, ↓atH_map, ↓aw_seq, ↓aw_block, ↓aw_skip, ↓aw_reg, ↓Qseq_n, ↓Qblk_n, ↓ops_nil, ↓ops_cons, ↓eval_tmp, ↓eval_int, ↓eval_func, ↓put_some, ↓iK_i, ↓dK_d, ↓binE_i, ↓bi_add, ↓in_i64, ↓ldK_q, ↓iaK_l, ↓op_move, ↓op_assign, ↓op_load, ↓op_bin, ↓op_ia, ↓op_append, ↓op_call, isD_d, ↓fnK_f, ↓call_H, ↓callK_H, ↓allT_nil, ↓allT_cons, ↓allD_nil, ↓allD_cons, ↓td_d, ↓app_mk, ↓row_sz, ↓row_xs, kill_d, kill_j, kill_o, ↓cells_c, ↓cells_l, ↓one_l, ↓ap_, ↓ap_o, ↓src_l, ↓bs_, ↓op_bs, ↓bsL_f, ↓stored_mk, ↓sl_nil, ↓sl_cons, ↓sT_move, ↓sT_assign, ↓sT_bs, ↓sT_call, ↓vsz_slice, ↓inO_1, ↓fm_nil, ↓fm_cons, ↓hd_cons, ↓ty24, ↓zb24, ↓sl69, ↓sl99, ↓ty102, List.getD_cons_zero, List.getD_cons_succ, List.set_cons_zero, List.set_cons_succ, List.append_nil, List.map_cons, List.map_nil, List.length_cons, List.length_nil, List.length_map, List.all_cons, List.all_nil, Bool.true_and, Bool.and_self, Bool.true_or, Bool.or_false, Nat.reduceAdd, Nat.reduceSub, Nat.reduceMul, Nat.zero_add, Int.toNat_natCast, evK_go, reduceIte, decide_true, Nat.reduceEqDiff, Nat.reduceLT, and_self, true_and, Int.zero_add, List.drop_zero, Int.natCast_nonneg]
      refine OrH.l (OrH.l ⟨by decide, ⟨fun _ => trivial, by simp; omega, by omega, by omega⟩, by omega, k + 1, by omega, by omega, ?_⟩)
      refine Wkn.of [] [some 0] ?_
      simp (implicitDefEqProofs := false) (dsimp := false) only [take_succ_getD hkW, List.map_append, liD, List.getD_cons_zero, List.set_cons_zero, List.set_cons_succ, List.map_cons, List.map_nil, Bool.and_self, Nat.reduceAdd, Nat.reduceSub, Nat.reduceMul, List.replicate, evK_go, reduceIte, Nat.reduceEqDiff, Nat.reduceLT, and_self, List.foldl_cons, List.foldl_nil, Int.cast_ofNat_Int, Int.natCast_add, slots, wkL_nil, wkL_cons, wkB_nil, wkR_nil, wkR_some, wkV_j, wkV_d, wkV_o, frz_d, oK_zs, reduceCtorEq]
    · obtain rfl : k = m := by omega
      simp (implicitDefEqProofs := false) (dsimp := false) only [eval_nilI, ↓optK_some, ↓rwK_mk_, ↓aw_seq, ↓aw_exit, ↓aw_ret, ↓aw_reg, ↓Qseq_n, ↓Qseq_x, ↓Qblk_x, ↓Qret_r, ↓ops_nil, ↓ops_cons, ↓eval_tmp, ↓put_some, ↓op_move, ↓op_assign, ↓td_d, ↓td_o, ↓ret_2, ↓row_xs, List.getD_cons_zero, List.getD_cons_succ, List.set_cons_zero, List.set_cons_succ, Nat.reduceAdd, Nat.reduceSub, Nat.reduceMul, evK_go, reduceIte, decide_false, Nat.reduceEqDiff, Nat.reduceLT, Nat.lt_irrefl, List.drop_zero]
      have e1 : W.take k = W := List.take_of_length_le (by omega)
      have e2 : List.take k (List.map liD (List.map ptsI W)) = List.map liD (List.map ptsI W) := List.take_of_length_le (by simp; omega)
      rw [e1, e2, erD_0]
theorem call_call (n : Int) (l : List (Int × Int)) (pure : Bool) (σ : St) (dst : Option Tmp) (K : St → Prop) : CallH Tryd.prog 52 [I .i64 n, .l (l.map lnD)] pure σ dst (.mk : Hid K) = OrH ((l.length < 2 ^ 62) ∧ (pure || D.flat (.t [.l ((closeAll n l).map liD), erD (chk n l)])) = true ∧ evK (σ.put dst (.d (.t [.l ((closeAll n l).map liD), erD (chk n l)]))) (.mk : Hid K)) (.mk : Hid (CallH Tryd.prog 52 [I .i64 n, .l (l.map lnD)] pure σ dst (.mk : Hid K))) := CallH.eq (call_spec n l) pure σ dst K
end Go.Proofs

namespace Go.Proofs
open Go.Aw
set_option linter.unusedSimpArgs false
set_option maxRecDepth 10000
theorem inB_iff {x lo hi : Int} : inB x lo hi = true ↔ lo ≤ x ∧ x ≤ hi := by simp [inB]
theorem ptsI_mem (s : Nat) (c : Nat) : (c : Int) ∈ ptsI s ↔ c < 64 ∧ s.testBit c = true := by
  unfold ptsI
  rw [List.mem_map, ← pts_mem]
  exact ⟨fun ⟨x, h, e⟩ => by rw [← Int.ofNat_inj.1 e]; exact h, fun h => ⟨c, h, rfl⟩⟩
theorem mapP_get (W : List Nat) (i : Nat) : (W.map ptsI).getD i default = ptsI (W.getD i default) := by
  rw [List.getD_eq_getElem?_getD, List.getD_eq_getElem?_getD, List.getElem?_map]
  cases W[i]? <;> rfl
end Go.Proofs

namespace Go.Proofs
open Go.Aw
set_option linter.unusedSimpArgs false
set_option maxRecDepth 10000
/-- All but one. -/
def butK {α : Type} [Inhabited α] (l : List α) (k : Int) (i : Nat) : List α := ((List.range i).filter fun j : Nat => !decide ((j : Int) = k)).map fun j => l.getD j default
def butL {α : Type} [Inhabited α] (l : List α) (k : Int) : List α := butK l k l.length
/-- The place of a number. -/
def place (l : List Int) (n : Int) : Int := if n ∈ l then (l.idxOf n : Nat) else -1
/-- How many are false. -/
def missN (l : List Bool) : Nat := l.countP fun b => !b
theorem lines_spec (n : Int) (l : List (Int × Int)) (hpre : l.length < 2 ^ 62) : FnD Tryd.prog 20 [I .i64 n, .l (l.map lnD)] (I .i64 (chk n l)) := by
  refine FnD.go Tryd.func20 rfl rfl Tryd.results20 Tryd.ntmps20 ?_
  simp (implicitDefEqProofs := false) (dsimp := false) only [↓aw_seq, ↓aw_reg, ↓Qseq_n, ↓ops_nil, ↓ops_cons, ↓eval_tmp, ↓eval_int, ↓eval_func, ↓put_some, ↓op_move, ↓op_assign, ↓op_call, isD_d, ↓fnK_f, ↓call_H, ↓callK_H, ↓allT_nil, ↓allT_cons, ↓td_d, List.getD_cons_zero, List.getD_cons_succ, List.set_cons_zero, List.set_cons_succ, List.cons_append, List.nil_append, List.append_nil, List.map_cons, List.map_nil, List.length_cons, List.length_nil, List.all_cons, List.all_nil, Bool.and_self, Nat.reduceAdd, Nat.reduceSub, Nat.reduceMul, Nat.zero_add, List.replicate, evK_go, reduceIte, Nat.reduceEqDiff, Nat.reduceLT, and_self, Int.zero_add]
  simp (implicitDefEqProofs := false) (dsimp := false) only [in1_call, ↓cdK_not, ↓aw_cond, ↓Qseq_n, ↓ops_nil, ↓ops_cons, ↓eval_tmp, ↓put_some, ↓bK_b, ↓op_not, List.getD_cons_zero, List.getD_cons_succ, List.set_cons_zero, List.set_cons_succ, Bool.true_and, Bool.true_or, Nat.reduceAdd, Nat.reduceSub, Nat.reduceMul, evK_go, reduceIte, Nat.reduceEqDiff, Nat.reduceLT, true_and]
  refine OrH.l (OrH.l (cdK_split (fun hn => ?_) (fun hn => ?_)))
  rotate_left
  · simp (implicitDefEqProofs := false) (dsimp := false) only [chk, hn, ↓aw_seq, ↓aw_ret, ↓aw_reg, ↓Qseq_n, ↓Qseq_r, ↓Qret_r, ↓ops_nil, ↓ops_cons, ↓eval_tmp, ↓eval_int, ↓put_some, ↓op_assign, ↓td_d, ↓ret_1, List.getD_cons_zero, List.getD_cons_succ, List.set_cons_zero, List.set_cons_succ, Nat.reduceAdd, Nat.reduceSub, Nat.reduceMul, evK_go, reduceIte, Bool.not_false, Nat.reduceEqDiff, Nat.reduceLT]
  simp (implicitDefEqProofs := false) (dsimp := false) only [↓aw_cond, ↓aw_seq, ↓aw_skip, ↓aw_reg, ↓Qseq_n, ↓ops_nil, ↓ops_cons, ↓eval_tmp, ↓eval_int, ↓put_some, ↓bK_b, ↓lenK_l, ↓binE_i, ↓bi_gtr, ↓op_move, ↓op_bin, ↓op_len, ↓sl22, List.getD_cons_zero, List.getD_cons_succ, List.set_cons_zero, List.set_cons_succ, List.length_map, Nat.reduceAdd, Nat.reduceSub, Nat.reduceMul, evK_go, reduceIte, Nat.reduceEqDiff, Nat.reduceLT]
  refine cdK_dec (fun h24 => ?_) (fun h24 => ?_)
  · have h24' : 24 < l.length := by omega
    simp (implicitDefEqProofs := false) (dsimp := false) only [chk, hn, h24', Bool.true_eq_false, ↓aw_seq, ↓aw_ret, ↓aw_reg, ↓Qseq_n, ↓Qseq_r, ↓Qret_r, ↓ops_nil, ↓ops_cons, ↓eval_tmp, ↓eval_int, ↓put_some, ↓op_assign, ↓td_d, ↓ret_1, List.getD_cons_zero, List.getD_cons_succ, List.set_cons_zero, List.set_cons_succ, Nat.reduceAdd, Nat.reduceSub, Nat.reduceMul, evK_go, reduceIte, Bool.not_true, Nat.reduceEqDiff, Nat.reduceLT]
  have h24' : ¬ 24 < l.length := by omega
  have hc : chk n l = firstErr (lineErr n) l := by simp [chk, hn, h24']
  rw [hc]
  simp (implicitDefEqProofs := false) (dsimp := false) only [↓aw_seq, ↓aw_block, ↓aw_skip, ↓aw_loop, ↓aw_reg, ↓Qseq_n, ↓ops_nil, ↓ops_cons, ↓eval_int, ↓put_some, ↓op_assign, List.set_cons_zero, List.set_cons_succ, Nat.reduceAdd, Nat.reduceSub, Nat.reduceMul, evK_go, reduceIte, Nat.reduceEqDiff, Nat.reduceLT]
  have hn' : 1 ≤ n ∧ n ≤ 8 := by simpa [inB] using hn
  refine loopW (fun k : Nat => { tm := slots 49 [(0, .d (I .i64 n)), (1, .d (.l (l.map lnD))), (5, .d (I .i64 k))], bx := [], rw := [] })
    (fun k => k ≤ l.length ∧ firstErr (lineErr n) (l.take k) = 0) (fun k => l.length - k) 0 ⟨by simp, by simp [firstErr]⟩ ?_ ?_
  · refine Wkn.of [] [] ?_
    simp (implicitDefEqProofs := false) (dsimp := false) only [List.set_cons_zero, List.set_cons_succ, Bool.and_self, Nat.reduceAdd, Nat.reduceSub, Nat.reduceMul, List.replicate, evK_go, reduceIte, Nat.reduceEqDiff, Nat.reduceLT, and_self, List.foldl_cons, List.foldl_nil, Int.cast_ofNat_Int, slots, wkL_nil, wkL_cons, wkB_nil, wkR_nil, wkV_j, wkV_d, frz_d, reduceCtorEq]
  · rintro k ⟨h1, h2⟩
    simp (implicitDefEqProofs := false) (dsimp := false) only [slots, ↓aw_cond, ↓aw_seq, ↓aw_reg, ↓Qseq_n, ↓ops_nil, ↓ops_cons, ↓eval_tmp, ↓put_some, ↓bK_b, ↓lenK_l, ↓binE_i, ↓bi_lss, ↓op_move, ↓op_bin, ↓op_len, ↓sl22, List.getD_cons_zero, List.getD_cons_succ, List.set_cons_zero, List.set_cons_succ, List.length_map, Nat.reduceAdd, Nat.reduceSub, Nat.reduceMul, List.replicate, evK_go, reduceIte, Nat.reduceEqDiff, Nat.reduceLT, List.foldl_cons, List.foldl_nil, Int.ofNat_lt]
    refine cdK_dec (fun h => ?_) (fun h => ?_)
    · obtain ⟨g1, g2⟩ := firstErr_take h h2
      simp (implicitDefEqProofs := false) (dsimp := false) only [h, lnD, in1_call, ↓cdK_not, ↓gdK_f, ↓gval_mk, ↓gvL_zero, ↓gvL_succ, ↓atK_H, ↓atH_map, ↓aw_seq, ↓aw_block, ↓aw_skip, ↓aw_reg, ↓Qseq_n, ↓ops_cons, ↓ops_guard, ↓eval_tmp, ↓eval_int, ↓eval_func, ↓put_some, ↓bK_b, ↓iK_i, ↓binE_i, ↓bi_sub, ↓in_i64, ↓ldK_q, ↓faK_q, ↓iaK_l, ↓op_move, ↓op_load, ↓op_bin, ↓op_not, ↓op_fa, ↓op_ia, ↓op_call, isD_d, ↓fnK_f, ↓call_H, ↓callK_H, ↓allT_nil, ↓allT_cons, ↓td_d, ↓st_tm, ↓cells_s, ↓hd_cons, ↓ty3, ↓sl22, ↓ty41, ↓fd41_0, List.getD_cons_zero, List.getD_cons_succ, List.set_cons_zero, List.set_cons_succ, List.append_nil, List.length_cons, List.length_nil, List.all_cons, List.all_nil, Bool.true_and, Bool.and_self, Bool.true_or, Nat.reduceAdd, Nat.reduceSub, Nat.reduceMul, Nat.zero_add, Int.toNat_natCast, evK_go, reduceIte, decide_true, Nat.reduceEqDiff, Nat.reduceLT, and_self, true_and, Int.zero_add, List.drop_zero, Int.natCast_nonneg]
      refine ⟨by omega, OrH.l (OrH.l (cdK_split (fun ha => ?_) (fun ha => ?_)))⟩
      rotate_left
      · have e : lineErr n (l.getD k default) = 1 := by simp (implicitDefEqProofs := false) (dsimp := false) only [lineErr, ha, Bool.false_and, reduceIte]
        rw [g2 (by rw [e]; decide), e]
        simp (implicitDefEqProofs := false) (dsimp := false) only [ha, ↓cdK_true, ↓gdK_f, ↓gval_mk, ↓gvL_zero, ↓gvL_succ, ↓aw_cond, ↓aw_seq, ↓aw_ret, ↓aw_reg, ↓Qseq_n, ↓Qseq_r, ↓Qblk_r, ↓Qret_r, ↓ops_nil, ↓ops_cons, ↓ops_guard, ↓eval_tmp, ↓eval_int, ↓eval_bool, ↓put_some, ↓bK_b, ↓op_assign, ↓op_pick, ↓td_d, ↓ret_1, ↓st_tm, List.getD_cons_zero, List.getD_cons_succ, List.set_cons_zero, List.set_cons_succ, Nat.reduceAdd, Nat.reduceSub, Nat.reduceMul, evK_go, reduceIte, Bool.not_false, Nat.reduceEqDiff, Nat.reduceLT]
      simp (implicitDefEqProofs := false) (dsimp := false) only [ha, h, lnD, in1_call, ↓cdK_false, ↓cdK_not, ↓gdK_f, ↓gval_mk, ↓gvL_zero, ↓gvL_succ, ↓atK_H, ↓atH_map, ↓aw_cond, ↓Qseq_n, ↓ops_nil, ↓ops_cons, ↓ops_guard, ↓eval_tmp, ↓eval_int, ↓eval_func, ↓put_some, ↓bK_b, ↓iK_i, ↓binE_i, ↓bi_sub, ↓in_i64, ↓ldK_q, ↓faK_q, ↓iaK_l, ↓op_move, ↓op_pick, ↓op_load, ↓op_bin, ↓op_not, ↓op_fa, ↓op_ia, ↓op_call, isD_d, ↓fnK_f, ↓call_H, ↓callK_H, ↓allT_nil, ↓allT_cons, ↓td_d, ↓st_tm, ↓cells_s, ↓hd_cons, ↓ty3, ↓sl22, ↓ty41, ↓fd41_1, List.getD_cons_zero, List.getD_cons_succ, List.set_cons_zero, List.set_cons_succ, List.append_nil, List.length_cons, List.length_nil, List.all_cons, List.all_nil, Bool.true_and, Bool.and_self, Bool.true_or, Nat.reduceAdd, Nat.reduceSub, Nat.reduceMul, Nat.zero_add, Int.toNat_natCast, evK_go, reduceIte, Bool.not_true, Nat.reduceEqDiff, Nat.reduceLT, and_self, true_and, Int.zero_add, List.drop_zero, List.drop_succ_cons, Int.natCast_nonneg]
      refine ⟨by omega, OrH.l (OrH.l (cdK_split (fun hb => ?_) (fun hb => ?_)))⟩
      · simp (implicitDefEqProofs := false) (dsimp := false) only [hb, h, lnD, ↓atK_H, ↓atH_map, ↓aw_cond, ↓aw_seq, ↓aw_skip, ↓aw_draw, ↓Qseq_n, ↓eval_tmp, ↓put_some, ↓bK_b, ↓iK_i, ↓ev_move, ↓ev_load, ↓ev_bin, ↓ev_fa, ↓ev_ia, ↓binE_i, ↓bi_eql, ↓ldK_q, ↓faK_q, ↓iaK_l, ↓draw_H, ↓h_nil, ↓h_cons, ↓ldH_n, ↓q_move, ↓q_load, ↓q_bin, ↓q_fa, ↓q_ia, ↓il_move, ↓il_load, ↓il_bin, ↓il_fa, ↓il_ia, ↓cells_s, ↓hd_cons, ↓ty3, ↓sl22, ↓ty41, ↓fd41_0, ↓fd41_1, List.getD_cons_zero, List.getD_cons_succ, List.set_cons_zero, List.set_cons_succ, List.length_cons, List.length_nil, Bool.true_and, Nat.reduceAdd, Nat.reduceSub, Nat.reduceMul, Nat.zero_add, Int.toNat_natCast, evK_go, reduceIte, Bool.not_true, Nat.reduceEqDiff, Nat.reduceLT, true_and, Int.zero_add, List.drop_zero, List.drop_succ_cons, Int.natCast_nonneg]
        refine OrH.l ⟨DrawH.of follows_mixed (by kernel_rfl), cdK_dec (fun he => ?_) (fun he => ?_)⟩
        · have e : lineErr n (l.getD k default) = 3 := by unfold lineErr; rw [ha, hb, if_neg (by decide), if_pos he]
          rw [g2 (by rw [e]; decide), e]
          simp (implicitDefEqProofs := false) (dsimp := false) only [↓aw_seq, ↓aw_ret, ↓aw_reg, ↓Qseq_n, ↓Qseq_r, ↓Qblk_r, ↓Qret_r, ↓ops_nil, ↓ops_cons, ↓eval_tmp, ↓eval_int, ↓put_some, ↓op_assign, ↓td_d, ↓ret_1, List.getD_cons_zero, List.getD_cons_succ, List.set_cons_zero, List.set_cons_succ, Nat.reduceAdd, Nat.reduceSub, Nat.reduceMul, evK_go, reduceIte, Nat.reduceEqDiff, Nat.reduceLT]
        · have e : lineErr n (l.getD k default) = 0 := by simp (implicitDefEqProofs := false) (dsimp := false) only [lineErr, ha, hb, he, Bool.and_self, reduceIte, Bool.true_eq_false]
          simp (implicitDefEqProofs := false) (dsimp := false) only [↓aw_skip, ↓aw_reg, ↓Qseq_n, ↓Qblk_n, ↓ops_nil, ↓ops_cons, ↓eval_tmp, ↓eval_int, ↓put_some, ↓binE_i, ↓bi_add, ↓in_i64, ↓op_move, ↓op_assign, ↓op_bin, List.getD_cons_zero, List.getD_cons_succ, List.set_cons_zero, List.set_cons_succ, Nat.reduceAdd, Nat.reduceSub, Nat.reduceMul, evK_go, reduceIte, Nat.reduceEqDiff, Nat.reduceLT]
          refine ⟨by omega, k + 1, ⟨by omega, g1 e⟩, by omega, ?_⟩
          refine Wkn.of [] [] ?_
          simp (implicitDefEqProofs := false) (dsimp := false) only [List.set_cons_zero, List.set_cons_succ, Bool.and_self, Nat.reduceAdd, Nat.reduceSub, Nat.reduceMul, List.replicate, evK_go, reduceIte, Nat.reduceEqDiff, Nat.reduceLT, and_self, List.foldl_cons, List.foldl_nil, Int.cast_ofNat_Int, Int.natCast_add, slots, wkL_nil, wkL_cons, wkB_nil, wkR_nil, wkV_j, wkV_d, frz_d, reduceCtorEq]
      · have e : lineErr n (l.getD k default) = 1 := by simp (implicitDefEqProofs := false) (dsimp := false) only [lineErr, hb, Bool.and_false, reduceIte]
        rw [g2 (by rw [e]; decide), e]
        simp (implicitDefEqProofs := false) (dsimp := false) only [hb, ↓aw_seq, ↓aw_ret, ↓aw_reg, ↓Qseq_n, ↓Qseq_r, ↓Qblk_r, ↓Qret_r, ↓ops_nil, ↓ops_cons, ↓eval_tmp, ↓eval_int, ↓put_some, ↓op_assign, ↓td_d, ↓ret_1, List.getD_cons_zero, List.getD_cons_succ, List.set_cons_zero, List.set_cons_succ, Nat.reduceAdd, Nat.reduceSub, Nat.reduceMul, evK_go, reduceIte, Bool.not_false, Nat.reduceEqDiff, Nat.reduceLT]
    · obtain rfl : k = l.length := by omega
      rw [List.take_length] at h2
      simp (implicitDefEqProofs := false) (dsimp := false) only [h2, ↓aw_seq, ↓aw_exit, ↓aw_ret, ↓aw_reg, ↓Qseq_n, ↓Qseq_x, ↓Qblk_x, ↓Qret_r, ↓ops_nil, ↓ops_cons, ↓eval_tmp, ↓eval_int, ↓put_some, ↓op_assign, ↓td_d, ↓ret_1, List.getD_cons_zero, List.getD_cons_succ, List.set_cons_zero, List.set_cons_succ, Nat.reduceAdd, Nat.reduceSub, Nat.reduceMul, evK_go, reduceIte, decide_false, Nat.reduceEqDiff, Nat.reduceLT, Nat.lt_irrefl]
theorem lines_call (n : Int) (l : List (Int × Int)) (pure : Bool) (σ : St) (dst : Option Tmp) (K : St → Prop) : CallH Tryd.prog 20 [I .i64 n, .l (l.map lnD)] pure σ dst (.mk : Hid K) = OrH ((l.length < 2 ^ 62) ∧ (pure || D.flat (I .i64 (chk n l))) = true ∧ evK (σ.put dst (.d (I .i64 (chk n l)))) (.mk : Hid K)) (.mk : Hid (CallH Tryd.prog 20 [I .i64 n, .l (l.map lnD)] pure σ dst (.mk : Hid K))) := CallH.eq (lines_spec n l) pure σ dst K
end Go.Proofs

namespace Go.Proofs
open Go.Aw
set_option linter.unusedSimpArgs false
set_option maxRecDepth 10000
def topoE (n : Int) (l : List (Int × Int)) : Int := if chk n l = 0 then (if (topoO n.toNat (natL l)).isSome then 0 else 5) else chk n l
def topoL (n : Int) (l : List (Int × Int)) : List Nat := if chk n l = 0 then (topoO n.toNat (natL l)).getD [] else []
theorem TI.zero {n left : Nat} {l : List (Nat × Nat)} {acc : List Nat} (hl : acc.length = n) (h : TI n l left acc) : left = 0 := by
  apply Nat.eq_of_testBit_eq
  intro i
  rw [Nat.zero_testBit, ← Bool.not_eq_true]
  intro hi
  have hni : i ∉ acc := fun h' => by have := (h.out i h').2; rw [hi] at this; cases this
  have hsub : ∀ x ∈ i :: acc, x ∈ List.range n := fun x hx => by
    rcases List.mem_cons.1 hx with rfl | hx
    · simpa using h.lt x hi
    · simpa using (h.out x hx).1
  have := pig (List.nodup_cons.2 ⟨hni, h.nodup⟩) hsub
  simp at this; omega
structure TSt where
  m : Nat
  left : Nat
  acc : List Nat
theorem bits_lt {s n : Nat} (h : ∀ i, s.testBit i = true → i < n) (hn : n ≤ 64) : s < 2 ^ 64 := by
  apply Nat.lt_pow_two_of_testBit
  intro i hi
  rw [← Bool.not_eq_true]
  intro h'
  have := h i h'; omega
theorem order_spec (n : Int) (l : List (Int × Int)) (hpre : l.length < 2 ^ 62) : FnD Tryd.prog 23 [I .i64 n, .l (l.map lnD)] (.t [.l ((topoL n l).map nD), erD (topoE n l)]) := by
  refine FnD.go Tryd.func23 rfl rfl Tryd.results23 Tryd.ntmps23 ?_
  simp (implicitDefEqProofs := false) (dsimp := false) only [↓aw_seq, ↓aw_reg, ↓Qseq_n, ↓ops_nil, ↓ops_cons, ↓eval_tmp, ↓eval_nil, ↓eval_func, ↓put_some, ↓op_move, ↓op_assign, ↓op_call, isD_d, ↓fnK_f, ↓call_H, ↓callK_H, ↓allT_nil, ↓allT_cons, ↓td_d, List.getD_cons_zero, List.getD_cons_succ, List.set_cons_zero, List.set_cons_succ, List.cons_append, List.nil_append, List.append_nil, List.map_cons, List.map_nil, List.length_cons, List.length_nil, List.all_cons, List.all_nil, Bool.and_self, Nat.reduceAdd, Nat.reduceSub, Nat.reduceMul, Nat.zero_add, List.replicate, evK_go, reduceIte, Nat.reduceEqDiff, Nat.reduceLT, and_self, Int.zero_add]
  simp (implicitDefEqProofs := false) (dsimp := false) only [gcheck_call, eval_nilI, ↓er_neq, er_flat, ↓cdK_not, ↓aw_cond, ↓aw_seq, ↓aw_reg, ↓Qseq_n, ↓ops_nil, ↓ops_cons, ↓eval_tmp, ↓put_some, ↓bK_b, ↓op_move, ↓op_assign, ↓op_bin, List.getD_cons_zero, List.getD_cons_succ, List.set_cons_zero, List.set_cons_succ, Bool.true_and, Bool.or_true, Nat.reduceAdd, Nat.reduceSub, Nat.reduceMul, evK_go, reduceIte, Nat.reduceEqDiff, Nat.reduceLT, true_and]
  refine OrH.l (OrH.l ⟨hpre, ?_⟩)
  refine cdK_dec (fun hc => ?_) (fun hc => ?_)
  rotate_left
  · simp (implicitDefEqProofs := false) (dsimp := false) only [topoL, topoE, hc, ↓aw_seq, ↓aw_ret, ↓aw_reg, ↓Qseq_n, ↓Qseq_r, ↓Qret_r, ↓ops_nil, ↓ops_cons, ↓eval_tmp, ↓eval_nil, ↓put_some, ↓op_move, ↓op_assign, ↓td_d, ↓td_nl, ↓ret_2, List.getD_cons_zero, List.getD_cons_succ, List.set_cons_zero, List.set_cons_succ, List.map_nil, Nat.reduceAdd, Nat.reduceSub, Nat.reduceMul, evK_go, reduceIte, decide_false, Bool.not_false, Nat.reduceEqDiff, Nat.reduceLT]
  have ok := chk_ok hc
  rw [show topoL n l = (topoO n.toNat (natL l)).getD [] from if_pos hc, show topoE n l = (if (topoO n.toNat (natL l)).isSome then 0 else 5) from if_pos hc, lnD_nat ok.rng, hc]
  have hout := ok.out
  have hg := ok.good
  have h8 := ok.hi
  have e0 := ok.n0
  clear ok hc hpre
  generalize n.toNat = m at *
  subst e0
  generalize natL l = L at *
  simp (implicitDefEqProofs := false) (dsimp := false) only [out_callD, hout, below_call, ↓aw_seq, ↓aw_block, ↓aw_skip, ↓aw_loop, ↓aw_reg, ↓Qseq_n, ↓ops_nil, ↓ops_cons, ↓eval_tmp, ↓eval_nil, ↓eval_func, ↓put_some, ↓put_none, ↓op_move, ↓op_assign, ↓op_call, ↓op_alloc, ↓op_store, isD_d, ↓fnK_f, ↓call_H, ↓callK_H, ↓allT_nil, ↓allT_cons, ↓td_d, ↓addBox_mk, ↓setBox_mk, ↓st_bx, ↓vcells_l, ↓vcells_nl, ↓one_l, ↓vone_d, constV_n, ↓st_p, ↓ty99, ↓zb99, List.getD_cons_zero, List.getD_cons_succ, List.set_cons_zero, List.set_cons_succ, List.nil_append, List.append_nil, List.length_cons, List.length_nil, List.all_cons, List.all_nil, Bool.true_and, Bool.and_self, Bool.true_or, Nat.reduceAdd, Nat.reduceSub, Nat.reduceMul, Nat.zero_add, evK_go, reduceIte, decide_true, Bool.not_true, Nat.reduceEqDiff, Nat.reduceLT, and_self, true_and, Int.zero_add]
  refine OrH.l (OrH.l ⟨hout.2.2, OrH.l (OrH.l ⟨by omega, ?_⟩)⟩)
  refine loopW (fun st : TSt => { tm := slots 55 [(7, .p 0 0), (8, .d (U st.left)), (9, .o 0 0 st.acc.length)], bx := [.d (.l ((outS m L).map U))], rw := [some ⟨1, st.acc.map nD⟩] })
    (fun st => TI m L st.left st.acc ∧ st.acc.length + st.m = m ∧ topoGo (outS m L) st.m st.left st.acc = topoO m L) (fun st => st.m) ⟨m, 2 ^ m - 1, []⟩ ⟨.start m L, by simp, rfl⟩ ?_ ?_
  · refine Wkn.of [0] [none] ?_
    simp (implicitDefEqProofs := false) (dsimp := false) only [↓row_xs, ↓vcells_l, List.getD_cons_zero, List.set_cons_zero, List.set_cons_succ, List.map_nil, List.length_cons, List.length_nil, Bool.and_self, Nat.reduceAdd, Nat.reduceSub, Nat.reduceMul, Nat.zero_add, List.replicate, evK_go, reduceIte, Nat.reduceEqDiff, Nat.reduceLT, and_self, Int.zero_add, List.foldl_cons, List.foldl_nil, slots, wkL_nil, wkL_cons, wkB_nil, wkB_cons, wkR_nil, wkR_new, wkV_j, wkV_d, nlK_nl, wkV_o, wkV_p, frz_d, oK_zn, pK_z, reduceCtorEq]
  · rintro ⟨q, left, acc⟩ ⟨hTI, hlen, hgo⟩
    simp only at hTI hlen hgo
    have hl64 := bits_lt hTI.lt (by omega)
    simp (implicitDefEqProofs := false) (dsimp := false) only [slots, ↓cdK_not, ↓aw_cond, ↓aw_seq, ↓aw_reg, ↓Qseq_n, ↓ops_nil, ↓ops_cons, ↓eval_tmp, ↓eval_int, ↓put_some, ↓bK_b, ↓binE_i, ↓bi_neq, ↓op_move, ↓op_bin, List.getD_cons_zero, List.getD_cons_succ, List.set_cons_zero, List.set_cons_succ, Nat.reduceAdd, Nat.reduceSub, Nat.reduceMul, List.replicate, evK_go, reduceIte, Nat.reduceEqDiff, Nat.reduceLT, List.foldl_cons, List.foldl_nil]
    refine cdK_dec (fun h => ?_) (fun h => ?_)
    · have h0 : left = 0 := by omega
      subst h0
      have : topoO m L = some acc := by
        rw [← hgo]
        cases q with
        | zero => rfl
        | succ q => unfold topoGo; rw [if_pos rfl]
      rw [this]
      simp (implicitDefEqProofs := false) (dsimp := false) only [eval_nilI, ↓optK_some, ↓rwK_mk_, ↓aw_seq, ↓aw_exit, ↓aw_ret, ↓aw_reg, ↓Qseq_n, ↓Qseq_x, ↓Qblk_x, ↓Qret_r, ↓ops_nil, ↓ops_cons, ↓eval_tmp, ↓put_some, ↓op_move, ↓op_assign, ↓td_d, ↓td_o, ↓ret_2, ↓row_xs, ↓take_map, List.getD_cons_zero, List.getD_cons_succ, List.set_cons_zero, List.set_cons_succ, Nat.reduceAdd, Nat.reduceSub, Nat.reduceMul, evK_go, reduceIte, decide_true, Bool.not_true, Nat.reduceEqDiff, Nat.reduceLT, Option.getD_some, List.drop_zero, Int.cast_ofNat_Int]
      rfl
    · have h0 : left ≠ 0 := by omega
      cases q with
      | zero => exact absurd (hTI.zero (by omega)) h0
      | succ q =>
      have hol := outS_len m L
      have hot := outS_lt' (n := m) (by omega) hg
      simp (implicitDefEqProofs := false) (dsimp := false) only [each_call, ↓aw_seq, ↓aw_block, ↓aw_skip, ↓aw_rng, ↓aw_reg, ↓Qseq_n, ↓ops_nil, ↓ops_cons, ↓eval_tmp, ↓eval_int, ↓eval_func, ↓put_some, ↓put_none, ↓op_move, ↓op_call, ↓op_alloc, ↓op_store, isD_d, ↓fnK_f, ↓call_H, ↓callK_H, ↓allT_nil, ↓allT_cons, ↓td_d, ↓addBox_mk, ↓setBox_mk, ↓st_bx, ↓vcells_c, ↓one_i, ↓vone_d, constV_i, ↓st_p, ↓ty102, ↓zb102, List.getD_cons_zero, List.getD_cons_succ, List.set_cons_zero, List.set_cons_succ, List.cons_append, List.nil_append, List.append_nil, List.length_cons, List.length_nil, List.all_cons, List.all_nil, Bool.true_and, Bool.and_self, Bool.true_or, Nat.reduceAdd, Nat.reduceSub, Nat.reduceMul, Nat.zero_add, evK_go, reduceIte, Nat.reduceEqDiff, Nat.reduceLT, and_self, true_and, Int.zero_add]
      refine OrH.l (OrH.l ?_)
      refine rangeW (slots 55 [(7, .p 0 0), (8, .d (U left)), (9, .o 0 0 acc.length), (10, .p 1 0), (27, .d (.f (.func 111) [.q [U left]]))])
        (fun P : List Nat => [.d (.l ((outS m L).map U)), .d (U (orL (outS m L) P))]) (fun _ => [some ⟨1, acc.map nD⟩]) (fun ys P => ys = P.map Int.ofNat) []
        (by simp [slots]) (each_iter _ hl64) ?_ rfl ?_ ?_ ?_
      · simp (implicitDefEqProofs := false) (dsimp := false) only [slots, ↓eval_tmp, List.getD_cons_zero, List.getD_cons_succ, List.set_cons_zero, List.set_cons_succ, Nat.reduceAdd, Nat.reduceSub, Nat.reduceMul, List.replicate, evK_go, reduceIte, Nat.reduceEqDiff, Nat.reduceLT, List.foldl_cons, List.foldl_nil]
      · refine Wkn.of [0, 1] [some 0] ?_
        simp (implicitDefEqProofs := false) (dsimp := false) only [orL, List.foldl_nil, ↓vcells_c, ↓vcells_l, List.getD_cons_zero, List.getD_cons_succ, List.set_cons_zero, List.set_cons_succ, List.length_cons, List.length_nil, Bool.and_self, Nat.reduceAdd, Nat.reduceSub, Nat.reduceMul, Nat.zero_add, List.replicate, evK_go, reduceIte, Nat.reduceEqDiff, Nat.reduceLT, and_self, Int.zero_add, List.foldl_cons, List.foldl_nil, Int.cast_ofNat_Int, slots, wkL_nil, wkL_cons, wkB_nil, wkB_cons, wkR_nil, wkR_some, wkV_j, wkV_d, wkV_o, wkV_p, frz_d, oK_zs, pK_z, pK_s, dc_eq, reduceCtorEq]
      · rintro ys x P hpx rfl
        obtain ⟨P', c, hP, rfl, hcc⟩ := prefix_map hpx
        obtain rfl : P = P' := ofNat_inj hP
        have hcm := (pts_mem _ _).1 (hcc.subset (by simp : c ∈ P ++ [c]))
        have hcl : c < (outS m L).length := by rw [hol]; exact hTI.lt c hcm.2
        have hct := hot _ (getD_mem hcl)
        have hor := orL_lt hot P
        simp (implicitDefEqProofs := false) (dsimp := false) only [slots, hcl, hct, hor, ↓atK_H, ↓atH_map, ↓nthK_H, ↓nthH_zero, ↓aw_block, ↓aw_reg, ↓aw_draw, ↓Qblk_n, ↓ops_nil, ↓ops_cons, ↓eval_tmp, ↓put_some, ↓put_none, ↓iK_i, ↓ev_move, ↓ev_load, ↓ev_bin, ↓ev_ia, ↓binE_i, ↓bi_or, ↓ldK_q, ↓ldK_p, ↓iaK_l, ↓op_assign, ↓op_store, ↓draw_H, ↓h_cons, ↓ldH_t, ↓ldH_n, ↓q_move, ↓q_load, ↓q_bin, ↓q_ia, ↓il_move, ↓il_load, ↓il_bin, ↓il_ia, ↓il_store, ↓setBox_mk, ↓st_bx, ↓cells_c, ↓vcells_c, ↓vcells_l, ↓one_i, ↓vone_d, ↓st_p, ↓hd_cons, ↓Qn_n, ↓Qrd_n, ↓back_mk, ↓ty99, ↓sl99, ↓ty102, List.getD_cons_zero, List.getD_cons_succ, List.set_cons_zero, List.set_cons_succ, List.length_cons, List.length_nil, List.all_cons, List.all_nil, Bool.true_and, Bool.and_self, Nat.reduceAdd, Nat.reduceSub, Nat.reduceMul, Nat.zero_add, Int.toNat_natCast, List.replicate, evK_go, reduceIte, Nat.reduceEqDiff, Nat.reduceLT, and_self, true_and, Int.zero_add, List.foldl_cons, List.foldl_nil, Int.natCast_nonneg]
        refine OrH.l ⟨DrawH.of follows_mixed (by kernel_rfl), ?_⟩
        refine ⟨P ++ [c], by simp, ?_⟩
        refine Wkn.of [0, 1] [some 0] ?_
        simp (implicitDefEqProofs := false) (dsimp := false) only [orL_snoc, ↓vcells_c, ↓vcells_l, List.getD_cons_zero, List.getD_cons_succ, List.length_cons, List.length_nil, Bool.and_self, Nat.reduceAdd, Nat.reduceSub, Nat.reduceMul, Nat.zero_add, evK_go, reduceIte, Nat.reduceEqDiff, Nat.reduceLT, and_self, Int.zero_add, slots, wkL_nil, wkL_cons, wkB_nil, wkB_cons, wkR_nil, wkR_some, wkV_j, wkV_d, wkV_o, wkV_p, frz_d, oK_zs, pK_z, pK_s, reduceCtorEq]
      · rintro P hP
        obtain rfl : pts left = P := ofNat_inj hP
        have hor := orL_lt hot (pts left)
        have hF : dif left (orL (outS m L) (pts left)) < 2 ^ 64 := dif_lt hl64
        have hgo2 : (if pts (dif left (orL (outS m L) (pts left))) = [] then none else topoGo (outS m L) q (dif left (2 ^ low (dif left (orL (outS m L) (pts left))))) (acc ++ [low (dif left (orL (outS m L) (pts left)))])) = topoO m L := by
          rw [← hgo]
          show _ = (if left = 0 then _ else _)
          rw [if_neg h0]; rfl
        have hnx := fun j hj => hTI.next (n := m) (by omega) hg (j := j) hj
        simp (implicitDefEqProofs := false) (dsimp := false) only [freeS] at hnx
        simp (implicitDefEqProofs := false) (dsimp := false) only [slots, hor, hl64, list_callD, hF, ↓nthK_H, ↓nthH_zero, ↓aw_cond, ↓aw_seq, ↓aw_reg, ↓Qseq_n, ↓Qblk_n, ↓ops_nil, ↓ops_cons, ↓eval_tmp, ↓eval_int, ↓eval_func, ↓put_some, ↓bK_b, ↓lenK_l, ↓binE_i, ↓bi_eql, ↓bi_andNot, ↓ldK_p, ↓op_move, ↓op_assign, ↓op_load, ↓op_bin, ↓op_len, ↓op_call, isD_d, ↓fnK_f, ↓call_H, ↓callK_H, ↓allT_nil, ↓allT_cons, ↓td_d, ↓vcells_c, ↓sl24, ↓ty102, List.getD_cons_zero, List.getD_cons_succ, List.set_cons_zero, List.set_cons_succ, List.append_nil, List.length_map, List.all_cons, List.all_nil, Bool.true_and, Bool.and_self, Bool.true_or, Nat.reduceAdd, Nat.reduceSub, Nat.reduceMul, List.replicate, evK_go, reduceIte, Nat.reduceEqDiff, Nat.reduceLT, and_self, true_and, List.foldl_cons, List.foldl_nil]
        generalize dif left (orL (outS m L) (pts left)) = F at hF hgo2 hnx ⊢
        refine OrH.l (OrH.l ?_)
        refine cdK_dec (fun he => ?_) (fun he => ?_)
        · have hp : pts F = [] := List.eq_nil_of_length_eq_zero (by simpa [ptsI] using he)
          rw [if_pos hp] at hgo2
          rw [← hgo2]
          simp (implicitDefEqProofs := false) (dsimp := false) only [nc108, ↓aw_seq, ↓aw_ret, ↓aw_reg, ↓Qseq_n, ↓Qseq_r, ↓Qblk_r, ↓Qret_r, ↓ops_nil, ↓ops_cons, ↓eval_tmp, ↓eval_int, ↓eval_nil, ↓put_some, ↓vK_c, ↓op_assign, ↓op_iface, ↓td_d, ↓td_nl, ↓ret_2, ↓nc108, List.getD_cons_zero, List.getD_cons_succ, List.set_cons_zero, List.set_cons_succ, List.map_nil, Bool.true_and, Nat.reduceAdd, Nat.reduceSub, Nat.reduceMul, evK_go, reduceIte, Nat.reduceEqDiff, Nat.reduceLT, true_and, Option.getD_none]
          rfl
        · have hp : pts F ≠ [] := fun e => he (by simp [ptsI, e])
          rw [if_neg hp] at hgo2
          have e1 : (ptsI F).getD 0 default = (low F : Int) := by
            unfold low ptsI
            cases hpp : pts F with
            | nil => exact absurd hpp hp
            | cons x t => rfl
          have hpos : 0 < (ptsI F).length := by rw [ptsI, List.length_map]; exact List.length_pos_iff.2 hp
          have hlow := (pts_mem _ _).1 (low_mem hp)
          have hl2 : low F < 64 := hlow.1
          simp (implicitDefEqProofs := false) (dsimp := false) only [hpos, e1, without_call, hl64, hl2, ↓optK_some, ↓rwK_mk_, ↓atK_H, ↓atH_map, ↓aw_seq, ↓aw_skip, ↓aw_reg, ↓Qseq_n, ↓Qblk_n, ↓ops_nil, ↓ops_cons, ↓eval_tmp, ↓eval_int, ↓eval_func, ↓put_some, ↓iK_i, ↓dK_d, ↓ldK_q, ↓iaK_l, ↓op_move, ↓op_assign, ↓op_load, ↓op_ia, ↓op_append, ↓op_call, isD_d, ↓fnK_f, ↓call_H, ↓callK_H, ↓allT_nil, ↓allT_cons, ↓allD_nil, ↓allD_cons, ↓td_d, ↓app_mk, ↓row_sz, ↓row_xs, kill_d, kill_j, kill_p, kill_o, ↓cells_c, ↓one_i, ↓ap_, ↓ap_o, ↓src_l, ↓bs_, ↓op_bs, ↓bsL_f, ↓stored_mk, ↓sl_nil, ↓sl_cons, ↓sT_move, ↓sT_assign, ↓sT_load, ↓sT_ia, ↓sT_bs, ↓sT_call, ↓vsz_int, ↓inO_1, ↓fm_nil, ↓fm_cons, ↓hd_cons, ↓ty3, ↓zb3, ↓sl24, List.getD_cons_zero, List.getD_cons_succ, List.set_cons_zero, List.set_cons_succ, List.append_nil, List.map_cons, List.map_nil, List.length_cons, List.length_nil, List.length_map, List.all_cons, List.all_nil, Bool.true_and, Bool.and_self, Bool.true_or, Bool.or_false, Nat.reduceAdd, Nat.reduceSub, Nat.reduceMul, Nat.zero_add, Int.toNat_zero, evK_go, reduceIte, Nat.reduceEqDiff, Nat.reduceLT, and_self, true_and, Int.zero_add, List.drop_zero]
          refine ⟨by decide, by decide, ⟨fun _ => trivial, by omega, by omega⟩, by decide, OrH.l (OrH.l ⟨⟨q, dif left (2 ^ low F), acc ++ [low F]⟩, ⟨hnx _ hlow.2, by simp; omega, hgo2⟩, by simp, ?_⟩)⟩
          refine Wkn.of [0] [some 0] ?_
          simp (implicitDefEqProofs := false) (dsimp := false) only [List.map_append, List.length_append, nD, ↓vcells_l, List.getD_cons_zero, List.set_cons_zero, List.set_cons_succ, List.map_cons, List.map_nil, List.length_cons, List.length_nil, Bool.and_self, Nat.reduceAdd, Nat.reduceSub, Nat.reduceMul, Nat.zero_add, List.replicate, evK_go, reduceIte, Nat.reduceEqDiff, Nat.reduceLT, and_self, Int.zero_add, List.foldl_cons, List.foldl_nil, slots, wkL_nil, wkL_cons, wkB_nil, wkB_cons, wkR_nil, wkR_some, wkV_j, wkV_d, wkV_o, wkV_p, frz_d, oK_zs, pK_z, reduceCtorEq]
theorem order_call (n : Int) (l : List (Int × Int)) (pure : Bool) (σ : St) (dst : Option Tmp) (K : St → Prop) : CallH Tryd.prog 23 [I .i64 n, .l (l.map lnD)] pure σ dst (.mk : Hid K) = OrH ((l.length < 2 ^ 62) ∧ (pure || D.flat (.t [.l ((topoL n l).map nD), erD (topoE n l)])) = true ∧ evK (σ.put dst (.d (.t [.l ((topoL n l).map nD), erD (topoE n l)]))) (.mk : Hid K)) (.mk : Hid (CallH Tryd.prog 23 [I .i64 n, .l (l.map lnD)] pure σ dst (.mk : Hid K))) := CallH.eq (order_spec n l) pure σ dst K
end Go.Proofs

namespace Go.Proofs
open Go.Aw
set_option linter.unusedSimpArgs false
set_option maxRecDepth 10000
def fewR (n : Int) (l : List (Int × Int)) : List (Nat × Nat) := if topoE n l = 0 then few n.toNat (natL l) else []
def fewK (n : Nat) (l : List (Nat × Nat)) (k : Nat) : List (Nat × Nat) := (List.range k).flatMap fun i => (pts (fewB n l i)).map fun j => (i, j)
theorem topoE_zero {n : Int} {l : List (Int × Int)} (h : topoE n l = 0) : chk n l = 0 ∧ ∃ o, topoO n.toNat (natL l) = some o := by
  unfold topoE at h
  split at h
  · rename_i hc
    refine ⟨hc, ?_⟩
    cases e : topoO n.toNat (natL l) with
    | some o => exact ⟨o, rfl⟩
    | none => rw [e] at h; cases h
  · rename_i hc; exact absurd h hc
end Go.Proofs

namespace Go.Proofs
open Go.Aw
set_option linter.unusedSimpArgs false
set_option maxRecDepth 10000
def cfL : List (Int × Int) := [(0, 1), (1, 2), (0, 2)]
end Go.Proofs

namespace Go.Proofs
open Go.Aw
set_option linter.unusedSimpArgs false
set_option maxRecDepth 10000
/-- What is known of where ways go. -/
structure CW (n : Int) (l : List (Int × Int)) (M : List (List Int)) (m : Nat) : Prop where
  n0 : n = (m : Int)
  hi : m ≤ 8
  llen : l.length ≤ 24
  len : M.length = m
  sz : ∀ i : Nat, (M.getD i default).length ≤ 64
  line : ∀ p ∈ l, ∃ x y : Nat, p = ((x : Int), (y : Int)) ∧ x < m ∧ y < m ∧ x ≠ y ∧ (y : Int) ∈ M.getD x default
  pt : ∀ (a : Nat) (b : Int), b ∈ M.getD a default → ∃ c : Nat, b = (c : Int) ∧ c < m ∧ a < m
  tr : ∀ (a b : Nat) (c : Int), (b : Int) ∈ M.getD a default → c ∈ M.getD b default → c ∈ M.getD a default
theorem closeW {n : Int} {l : List (Int × Int)} (hc : chk n l = 0) : CW n l (closeAll n l) n.toNat := by
  have ok := chk_ok hc
  have e : closeAll n l = (war n.toNat (natL l)).map ptsI := if_pos hc
  have hk : ∀ (i : Nat) (j : Int), j ∈ (closeAll n l).getD i default ↔ ∃ c : Nat, j = (c : Int) ∧ Path1 (natL l) i c := fun i j => by
    rw [e, mapP_get]
    constructor
    · intro h
      obtain ⟨c, hc1, rfl⟩ := List.mem_map.1 h
      exact ⟨c, rfl, (war_bit ok.good _ _).1 ((pts_mem _ _).1 hc1).2⟩
    · rintro ⟨c, rfl, h⟩
      have := (h.lt ok.good).2
      have := ok.hi
      exact (ptsI_mem _ _).2 ⟨by omega, (war_bit ok.good _ _).2 h⟩
  refine ⟨ok.n0, ok.hi, ok.len, by rw [e, List.length_map]; exact war_len ok.good, fun i => by rw [e, mapP_get]; exact ptsI_len _, fun p hp => ?_, fun a b hb => ?_, fun a b c hb hc => ?_⟩
  · have h1 := ok.rng p hp
    have h2 : natP p ∈ natL l := List.mem_map.2 ⟨p, hp, rfl⟩
    have h3 := ok.good _ h2
    refine ⟨p.1.toNat, p.2.toNat, ?_, h3.1, h3.2, ok.ne _ h2, ?_⟩
    · rw [Int.toNat_of_nonneg h1.1, Int.toNat_of_nonneg h1.2]
    · exact (hk _ _).2 ⟨_, rfl, p.2.toNat, h2, .refl⟩
  · obtain ⟨c, rfl, h⟩ := (hk _ _).1 hb
    have := h.lt ok.good
    exact ⟨c, rfl, this.2, this.1⟩
  · obtain ⟨x, hx, h1⟩ := (hk _ _).1 hb
    obtain ⟨y, rfl, h2⟩ := (hk _ _).1 hc
    cases Int.ofNat_inj.1 hx
    exact (hk _ _).2 ⟨y, rfl, h1.trans h2.path⟩
end Go.Proofs

namespace Go.Proofs
open Go.Aw
set_option linter.unusedSimpArgs false
set_option maxRecDepth 10000
def intP (p : Nat × Nat) : Int × Int := ((p.1 : Int), (p.2 : Int))
def intL (l : List (Nat × Nat)) : List (Int × Int) := l.map intP
theorem lnN_int (l : List (Nat × Nat)) : l.map lnN = (intL l).map lnD := by unfold intL; rw [List.map_map]; rfl
structure FW (n : Int) (l F : List (Int × Int)) : Prop where
  chk0 : chk n l = 0
  chkF : chk n F = 0
  same : closeAll n F = closeAll n l
  len : F.length ≤ l.length
  sub : ∀ p ∈ F, p ∈ l
  need : ∀ k : Nat, k < F.length → chk n (butL F (k : Int)) = 0 ∧ closeAll n (butL F (k : Int)) ≠ closeAll n l
end Go.Proofs

namespace Go.Proofs
open Go.Aw
set_option linter.unusedSimpArgs false
set_option maxRecDepth 10000
def deepR (n : Int) (l : List (Int × Int)) : List Nat := if topoE n l = 0 then deepS n.toNat (natL l) (topoL n l) else []
theorem deepJ_le {i : Nat} {s : List Nat} {j B : Nat} (h : ∀ x, s.getD x default ≤ B) : ∀ x, (deepJ i s j).getD x default ≤ B + 1 := fun x => by
  unfold deepJ
  rw [set_getD]
  split
  · have := h j; have := h i; omega
  · have := h x; omega
theorem deepJs_le {i : Nat} (L : List Nat) : ∀ {s : List Nat} {B : Nat}, (∀ x, s.getD x default ≤ B) → ∀ x, (L.foldl (deepJ i) s).getD x default ≤ B + L.length := by
  induction L with
  | nil => intro s B h; exact h
  | cons j L ih =>
    intro s B h x
    have := ih (deepJ_le (i := i) (j := j) h) x
    rw [List.length_cons]
    simp (implicitDefEqProofs := false) (dsimp := false) only [List.foldl_cons]
    omega
theorem deepI_le {next : List Nat} {s : List Nat} {i B : Nat} (h : ∀ x, s.getD x default ≤ B) : ∀ x, (deepI next s i).getD x default ≤ B + 64 := fun x => by
  have := deepJs_le (i := i) (pts (next.getD i default)) h x
  have := pts_len (next.getD i default)
  unfold deepI
  omega
theorem deepK_le (next o : List Nat) (n k : Nat) : ∀ x, ((o.take k).foldl (deepI next) (List.replicate n 0)).getD x default ≤ 64 * k := by
  have key : ∀ (L : List Nat) (s : List Nat) (B : Nat), (∀ x, s.getD x default ≤ B) → ∀ x, (L.foldl (deepI next) s).getD x default ≤ B + 64 * L.length := by
    intro L
    induction L with
    | nil => intro s B h x; simpa using h x
    | cons i L ih =>
      intro s B h x
      have := ih _ _ (deepI_le (next := next) (i := i) h) x
      rw [List.length_cons]
      simp (implicitDefEqProofs := false) (dsimp := false) only [List.foldl_cons]
      omega
  intro x
  have := key (o.take k) (List.replicate n 0) 0 (fun x => by
    rw [List.getD_eq_getElem?_getD, List.getElem?_replicate]
    split <;> simp) x
  have h1 : (o.take k).length ≤ k := by simp; omega
  omega
theorem deepJ_len (i : Nat) (s : List Nat) (j : Nat) : (deepJ i s j).length = s.length := by simp [deepJ]
theorem deepJs_len (i : Nat) (L : List Nat) : ∀ s : List Nat, (L.foldl (deepJ i) s).length = s.length := by
  induction L with
  | nil => intro s; rfl
  | cons j L ih => intro s; rw [List.foldl_cons, ih, deepJ_len]
theorem deepK_len (next o : List Nat) (n k : Nat) : ((o.take k).foldl (deepI next) (List.replicate n 0)).length = n := by
  have key : ∀ (L : List Nat) (s : List Nat), (L.foldl (deepI next) s).length = s.length := by
    intro L
    induction L with
    | nil => intro s; rfl
    | cons i L ih => intro s; rw [List.foldl_cons, ih, deepI, deepJs_len]
  rw [key]; simp
theorem deepw_spec (n : Int) (l : List (Int × Int)) (hpre : l.length < 2 ^ 62) : FnD Tryd.prog 26 [I .i64 n, .l (l.map lnD)] (.t [.l ((deepR n l).map nD), erD (topoE n l)]) := by
  refine FnD.go Tryd.func26 rfl rfl Tryd.results26 Tryd.ntmps26 ?_
  simp (implicitDefEqProofs := false) (dsimp := false) only [↓aw_seq, ↓aw_reg, ↓Qseq_n, ↓ops_nil, ↓ops_cons, ↓eval_tmp, ↓eval_nil, ↓eval_func, ↓put_some, ↓op_move, ↓op_assign, ↓op_call, isD_d, ↓fnK_f, ↓call_H, ↓callK_H, ↓allT_nil, ↓allT_cons, ↓td_d, List.getD_cons_zero, List.getD_cons_succ, List.set_cons_zero, List.set_cons_succ, List.cons_append, List.nil_append, List.append_nil, List.map_cons, List.map_nil, List.length_cons, List.length_nil, List.all_cons, List.all_nil, Bool.and_self, Nat.reduceAdd, Nat.reduceSub, Nat.reduceMul, Nat.zero_add, List.replicate, evK_go, reduceIte, Nat.reduceEqDiff, Nat.reduceLT, and_self, Int.zero_add]
  simp (implicitDefEqProofs := false) (dsimp := false) only [order_call, hpre, eval_nilI, ↓er_neq, ↓cdK_not, ↓nthK_H, ↓nthH_zero, ↓nthH_succ, ↓aw_cond, ↓aw_seq, ↓aw_reg, ↓Qseq_n, ↓ops_nil, ↓ops_cons, ↓eval_tmp, ↓put_some, ↓bK_b, ↓tK_t, ↓op_move, ↓op_assign, ↓op_bin, ↓op_extract, List.getD_cons_zero, List.getD_cons_succ, List.set_cons_zero, List.set_cons_succ, Bool.true_and, Bool.true_or, Nat.reduceAdd, Nat.reduceSub, Nat.reduceMul, evK_go, reduceIte, Nat.reduceEqDiff, Nat.reduceLT, true_and]
  (repeat refine OrH.l ?_)
  refine cdK_dec (fun hc => ?_) (fun hc => ?_)
  rotate_left
  · have e : deepR n l = [] := if_neg hc
    simp (implicitDefEqProofs := false) (dsimp := false) only [e, hc, ↓aw_seq, ↓aw_ret, ↓aw_reg, ↓Qseq_n, ↓Qseq_r, ↓Qret_r, ↓ops_nil, ↓ops_cons, ↓eval_tmp, ↓eval_nil, ↓put_some, ↓op_move, ↓op_assign, ↓td_d, ↓td_nl, ↓ret_2, List.getD_cons_zero, List.getD_cons_succ, List.set_cons_zero, List.set_cons_succ, List.map_nil, Nat.reduceAdd, Nat.reduceSub, Nat.reduceMul, evK_go, reduceIte, decide_false, Bool.not_false, Nat.reduceEqDiff, Nat.reduceLT]
  obtain ⟨hchk, o, ho⟩ := topoE_zero hc
  have ok := chk_ok hchk
  have ht : topoL n l = o := by unfold topoL; rw [if_pos hchk, ho]; rfl
  rw [show deepR n l = deepS n.toNat (natL l) (topoL n l) from if_pos hc, ht, lnD_nat ok.rng, hc]
  have hcr := ok.cr
  have h8 := ok.hi
  have e0 := ok.n0
  have hout := ok.out
  have hTI := topo_some (by omega) ok.good ho
  clear ok hc hpre hchk ho ht
  generalize n.toNat = m at *
  subst e0
  generalize natL l = L at *
  have hol := hTI.len
  have hom : ∀ i, i ∈ o → i < m := fun i h => hTI.mem.1 h
  have hNl := outS_len m L
  have hNt := outS_lt' (n := m) (by omega) hcr.2.2
  have hNm : ∀ i j, j ∈ pts ((outS m L).getD i default) → j < m := fun i j hj => (hcr.2.2 _ ((mem_next (by omega) hcr.2.2).1 hj)).2
  simp (implicitDefEqProofs := false) (dsimp := false) only [out_callD, hout, ↓aw_seq, ↓aw_block, ↓aw_skip, ↓aw_loop, ↓aw_reg, ↓Qseq_n, ↓ops_nil, ↓ops_cons, ↓eval_tmp, ↓eval_int, ↓eval_func, ↓put_some, ↓put_none, ↓iK_i, ↓dK_d, ↓lenK_l, ↓op_move, ↓op_assign, ↓op_len, ↓op_call, ↓op_alloc, ↓op_store, ↓op_make, isD_d, ↓fnK_f, ↓call_H, ↓callK_H, ↓allT_nil, ↓allT_cons, ↓td_d, ↓addBox_mk, ↓addRow_mk, ↓setBox_mk, ↓st_bx, ↓st_rw, ↓cells_c, ↓vcells_nl, ↓vcells_o, ↓one_i, ↓vone_o, constV_i, constV_n, ↓st_p, ↓mk_, ↓vsz_int, ↓ty3, ↓zb3, ↓ty24, ↓sl24, ↓zb24, List.getD_cons_zero, List.getD_cons_succ, List.set_cons_zero, List.set_cons_succ, List.nil_append, List.append_nil, List.length_cons, List.length_nil, List.length_map, List.all_cons, List.all_nil, Bool.and_true, Bool.true_and, Bool.and_self, Bool.true_or, Nat.reduceAdd, Nat.reduceSub, Nat.reduceMul, Nat.zero_add, Int.toNat_natCast, evK_go, reduceIte, decide_true, Bool.not_true, Nat.reduceEqDiff, Nat.reduceLT, and_self, true_and, and_true, Int.zero_add, Int.natCast_nonneg]
  (repeat refine OrH.l ?_)
  refine ⟨hout.2.2, ?_⟩
  (repeat refine OrH.l ?_)
  refine ⟨⟨by omega, by decide⟩, ?_⟩
  have hS : deepS m L o = o.foldl (deepI (outS m L)) (List.replicate m 0) := rfl
  rw [hS]
  generalize outS m L = N at *
  simp (implicitDefEqProofs := false) (dsimp := false) only [hol]
  refine loopW (fun k : Nat => { tm := slots 54 [(8, .d (.l (N.map U))), (9, .p 0 0), (27, .d (.l (o.map nD))), (28, .d (I .i64 (m : Int))), (29, .d (I .i64 k))], bx := [.o 0 0 m], rw := [some ⟨1, ((o.take k).foldl (deepI N) (List.replicate m 0)).map nD⟩] })
    (fun k => k ≤ m) (fun k => m - k) 0 (by simp) ?_ ?_
  · refine Wkn.of [0] [some 0] ?_
    simp (implicitDefEqProofs := false) (dsimp := false) only [List.foldl_nil, List.map_replicate, nD, ↓vcells_o, List.getD_cons_zero, List.set_cons_zero, List.set_cons_succ, List.length_cons, List.length_nil, Bool.and_self, Nat.reduceAdd, Nat.reduceSub, Nat.reduceMul, Nat.zero_add, List.replicate, evK_go, reduceIte, Nat.reduceEqDiff, Nat.reduceLT, and_self, Int.zero_add, List.take_zero, List.foldl_cons, List.foldl_nil, Int.cast_ofNat_Int, slots, wkL_nil, wkL_cons, wkB_nil, wkB_cons, wkR_nil, wkR_some, wkV_j, wkV_d, wkV_o, wkV_p, frz_d, oK_zs, pK_z, reduceCtorEq]
  · intro k hk
    have hSl := deepK_len N o m k
    have hSb := deepK_le N o m k
    simp (implicitDefEqProofs := false) (dsimp := false) only [slots, ↓aw_cond, ↓aw_seq, ↓aw_reg, ↓Qseq_n, ↓ops_nil, ↓ops_cons, ↓eval_tmp, ↓put_some, ↓bK_b, ↓binE_i, ↓bi_lss, ↓op_bin, List.getD_cons_zero, List.getD_cons_succ, List.set_cons_zero, List.set_cons_succ, Nat.reduceAdd, Nat.reduceSub, Nat.reduceMul, List.replicate, evK_go, reduceIte, Nat.reduceEqDiff, Nat.reduceLT, List.foldl_cons, List.foldl_nil, Int.ofNat_lt]
    refine cdK_dec (fun h => ?_) (fun h => ?_)
    · have hko : k < o.length := by omega
      have hsucc : (o.take (k + 1)).foldl (deepI N) (List.replicate m 0) = deepI N ((o.take k).foldl (deepI N) (List.replicate m 0)) (o.getD k default) := by rw [take_succ_getD hko, List.foldl_append]; rfl
      have hi := hom _ (getD_mem hko)
      generalize (o.take k).foldl (deepI N) (List.replicate m 0) = S at hSl hSb hsucc ⊢
      generalize hog : o.getD k default = i at hi hsucc
      have hiN : i < N.length := by omega
      have hni := hNt _ (getD_mem hiN)
      simp (implicitDefEqProofs := false) (dsimp := false) only [hko, hog, nD, hiN, each_call, ↓atK_H, ↓atH_map, ↓nthK_H, ↓nthH_zero, ↓aw_seq, ↓aw_block, ↓aw_skip, ↓aw_rng, ↓aw_reg, ↓Qseq_n, ↓ops_nil, ↓ops_cons, ↓eval_tmp, ↓eval_func, ↓put_some, ↓put_none, ↓iK_i, ↓ldK_q, ↓ldK_p, ↓iaK_l, ↓op_move, ↓op_load, ↓op_ia, ↓op_call, ↓op_alloc, ↓op_store, isD_d, ↓fnK_f, ↓call_H, ↓callK_H, ↓allT_nil, ↓allT_cons, ↓td_d, ↓addBox_mk, ↓setBox_mk, ↓st_bx, ↓cells_c, ↓vcells_c, ↓one_i, ↓vone_d, constV_i, ↓st_p, ↓hd_cons, ↓ty3, ↓zb3, ↓sl24, ↓sl99, ↓ty102, List.getD_cons_zero, List.getD_cons_succ, List.set_cons_zero, List.set_cons_succ, List.cons_append, List.nil_append, List.append_nil, List.length_cons, List.length_nil, List.all_cons, List.all_nil, Bool.true_and, Bool.and_self, Bool.true_or, Nat.reduceAdd, Nat.reduceSub, Nat.reduceMul, Nat.zero_add, Int.toNat_natCast, evK_go, reduceIte, Nat.reduceEqDiff, Nat.reduceLT, and_self, true_and, Int.zero_add, Int.natCast_nonneg]
      (repeat refine OrH.l ?_)
      refine rangeW (slots 54 [(8, .d (.l (N.map U))), (9, .p 0 0), (11, .p 1 0), (27, .d (.l (o.map nD))), (28, .d (I .i64 (m : Int))), (29, .d (I .i64 (k : Int))), (37, .d (.f (.func 111) [.q [U (N.getD i default)]]))])
        (fun _ => [.o 0 0 m, .d (I .i64 (i : Int))]) (fun P : List Nat => [some ⟨1, (P.foldl (deepJ i) S).map nD⟩]) (fun ys P => ys = P.map Int.ofNat) []
        (by simp [slots]) (each_iter _ hni) ?_ rfl ?_ ?_ ?_
      · simp (implicitDefEqProofs := false) (dsimp := false) only [slots, ↓eval_tmp, List.getD_cons_zero, List.getD_cons_succ, List.set_cons_zero, List.set_cons_succ, Nat.reduceAdd, Nat.reduceSub, Nat.reduceMul, List.replicate, evK_go, reduceIte, Nat.reduceEqDiff, Nat.reduceLT, List.foldl_cons, List.foldl_nil]
      · refine Wkn.of [0, 1] [some 0] ?_
        simp (implicitDefEqProofs := false) (dsimp := false) only [List.foldl_nil, ↓vcells_c, ↓vcells_o, List.getD_cons_zero, List.getD_cons_succ, List.set_cons_zero, List.set_cons_succ, List.length_cons, List.length_nil, Bool.and_self, Nat.reduceAdd, Nat.reduceSub, Nat.reduceMul, Nat.zero_add, List.replicate, evK_go, reduceIte, Nat.reduceEqDiff, Nat.reduceLT, and_self, Int.zero_add, List.foldl_cons, List.foldl_nil, slots, wkL_nil, wkL_cons, wkB_nil, wkB_cons, wkR_nil, wkR_some, wkV_j, wkV_d, wkV_o, wkV_p, frz_d, oK_zs, pK_z, pK_s, reduceCtorEq]
      · rintro ys y P hpx rfl
        obtain ⟨P', c, hP, rfl, hcc⟩ := prefix_map hpx
        obtain rfl : P = P' := ofNat_inj hP
        have hcm : c < m := hNm i c (hcc.subset (by simp : c ∈ P ++ [c]))
        have hPl : P.length + 1 ≤ 64 := by
          have h3 := hcc.length_le
          have h4 := pts_len (N.getD i default)
          simp (implicitDefEqProofs := false) (dsimp := false) only [List.length_append, List.length_cons, List.length_nil] at h3
          omega
        have hTl := deepJs_len i P S
        have hTb := deepJs_le (i := i) P hSb
        have hfold : (P ++ [c]).foldl (deepJ i) S = (P.foldl (deepJ i) S).set c (max ((P.foldl (deepJ i) S).getD c default) ((P.foldl (deepJ i) S).getD i default + 1)) := by rw [List.foldl_append]; rfl
        generalize P.foldl (deepJ i) S = T at hTl hTb hfold ⊢
        have hcT : c < T.length := by omega
        have hiT : i < T.length := by omega
        have hbi := hTb i
        have hmax : (if ((T.getD i default : Nat) : Int) + 1 > ((T.getD c default : Nat) : Int) then ((T.getD i default : Nat) : Int) + 1 else ((T.getD c default : Nat) : Int)) = ((max (T.getD c default) (T.getD i default + 1) : Nat) : Int) := by split <;> omega
        have hTm : T.length = m := by omega
        simp (implicitDefEqProofs := false) (dsimp := false) only [slots, hcm, hi, hTm, nD, hmax, ↓optK_some, ↓rwK_mk_, ↓atK_H, ↓atH_map, ↓nthK_H, ↓nthH_zero, ↓aw_block, ↓aw_reg, ↓aw_draw, ↓Qblk_n, ↓ops_nil, ↓ops_cons, ↓eval_tmp, ↓eval_int, ↓put_some, ↓put_none, ↓iK_i, ↓dK_d, ↓ev_move, ↓ev_load, ↓ev_bin, ↓ev_ia, ↓ev_max, ↓binE_i, ↓bi_add, ↓in_i64, ↓ldK_p, ↓ldK_e, ↓iaK_o, ↓op_assign, ↓op_store, ↓draw_H, ↓h_cons, ↓ldH_t, ↓ldH_n, ↓q_bi, ↓q_move, ↓q_load, ↓q_bin, ↓q_ia, ↓il_move, ↓il_load, ↓il_bin, ↓il_ia, ↓il_max, ↓il_store, ↓setRow_mk, ↓row_sz, ↓row_xs, ↓cells_c, ↓vcells_c, ↓vcells_o, ↓one_i, ↓st_e, ↓Qn_n, ↓Qrd_n, ↓back_mk, ↓ty3, ↓ty24, ↓sl24, List.getD_cons_zero, List.getD_cons_succ, List.set_cons_zero, List.set_cons_succ, List.length_cons, List.length_nil, List.all_cons, List.all_nil, Bool.true_and, Bool.and_self, Nat.reduceAdd, Nat.reduceSub, Nat.reduceMul, Nat.zero_add, Int.toNat_natCast, List.replicate, evK_go, reduceIte, Nat.reduceEqDiff, Nat.reduceLT, and_self, true_and, Int.zero_add, List.foldl_cons, List.foldl_nil, Int.ofNat_lt, Int.natCast_nonneg]
        refine OrH.l ⟨DrawH.of follows_mixed (by kernel_rfl), by omega, ?_⟩
        refine ⟨P ++ [c], by simp, ?_⟩
        refine Wkn.of [0, 1] [some 0] ?_
        simp (implicitDefEqProofs := false) (dsimp := false) only [hfold, List.map_set, nD, ↓vcells_c, ↓vcells_o, List.getD_cons_zero, List.getD_cons_succ, List.length_cons, List.length_nil, Bool.and_self, Nat.reduceAdd, Nat.reduceSub, Nat.reduceMul, Nat.zero_add, evK_go, reduceIte, Nat.reduceEqDiff, Nat.reduceLT, and_self, Int.zero_add, slots, wkL_nil, wkL_cons, wkB_nil, wkB_cons, wkR_nil, wkR_some, wkV_j, wkV_d, wkV_o, wkV_p, frz_d, oK_zs, pK_z, pK_s, reduceCtorEq]
      · rintro P hP
        obtain rfl : pts (N.getD i default) = P := ofNat_inj hP
        simp (implicitDefEqProofs := false) (dsimp := false) only [slots, ↓aw_reg, ↓Qseq_n, ↓Qblk_n, ↓ops_nil, ↓ops_cons, ↓eval_tmp, ↓eval_int, ↓put_some, ↓binE_i, ↓bi_add, ↓in_i64, ↓op_move, ↓op_bin, List.getD_cons_zero, List.getD_cons_succ, List.set_cons_zero, List.set_cons_succ, Nat.reduceAdd, Nat.reduceSub, Nat.reduceMul, List.replicate, evK_go, reduceIte, Nat.reduceEqDiff, Nat.reduceLT, List.foldl_cons, List.foldl_nil]
        refine ⟨by omega, k + 1, by omega, by omega, ?_⟩
        refine Wkn.of [0] [some 0] ?_
        simp (implicitDefEqProofs := false) (dsimp := false) only [hsucc, deepI, ↓vcells_o, List.getD_cons_zero, List.length_cons, List.length_nil, Bool.and_self, Nat.reduceAdd, Nat.reduceSub, Nat.reduceMul, Nat.zero_add, evK_go, reduceIte, Nat.reduceEqDiff, Nat.reduceLT, and_self, Int.zero_add, Int.cast_ofNat_Int, Int.natCast_add, slots, wkL_nil, wkL_cons, wkB_nil, wkB_cons, wkR_nil, wkR_some, wkV_j, wkV_d, wkV_o, wkV_p, frz_d, oK_zs, pK_z, reduceCtorEq]
    · obtain rfl : k = m := by omega
      rw [List.take_of_length_le (by omega)] at hSl ⊢
      simp (implicitDefEqProofs := false) (dsimp := false) only [eval_nilI, ↓optK_some, ↓rwK_mk_, ↓nthK_H, ↓nthH_zero, ↓aw_seq, ↓aw_exit, ↓aw_ret, ↓aw_reg, ↓Qseq_n, ↓Qseq_x, ↓Qblk_x, ↓Qret_r, ↓ops_nil, ↓ops_cons, ↓eval_tmp, ↓put_some, ↓ldK_p, ↓op_assign, ↓op_load, ↓td_d, ↓td_o, ↓ret_2, ↓row_xs, ↓vcells_o, ↓ty24, List.getD_cons_zero, List.getD_cons_succ, List.set_cons_zero, List.set_cons_succ, Nat.reduceAdd, Nat.reduceSub, Nat.reduceMul, evK_go, reduceIte, decide_false, Nat.reduceEqDiff, Nat.reduceLT, Nat.lt_irrefl, List.drop_zero]
      have e1 : List.take k (List.map nD (o.foldl (deepI N) (List.replicate k 0))) = List.map nD (o.foldl (deepI N) (List.replicate k 0)) := List.take_of_length_le (by simp [hSl])
      rw [e1, erD_0]
theorem deepw_call (n : Int) (l : List (Int × Int)) (pure : Bool) (σ : St) (dst : Option Tmp) (K : St → Prop) : CallH Tryd.prog 26 [I .i64 n, .l (l.map lnD)] pure σ dst (.mk : Hid K) = OrH ((l.length < 2 ^ 62) ∧ (pure || D.flat (.t [.l ((deepR n l).map nD), erD (topoE n l)])) = true ∧ evK (σ.put dst (.d (.t [.l ((deepR n l).map nD), erD (topoE n l)]))) (.mk : Hid K)) (.mk : Hid (CallH Tryd.prog 26 [I .i64 n, .l (l.map lnD)] pure σ dst (.mk : Hid K))) := CallH.eq (deepw_spec n l) pure σ dst K
/-- The greatest number. -/
def maxN (l : List Nat) : Nat := (l.drop 1).foldl max (l.getD 0 default)
def maxK (l : List Nat) (k : Nat) : Nat := ((l.take k).drop 1).foldl max (l.getD 0 default)
theorem maxK_succ {l : List Nat} {k : Nat} (h : k < l.length) (h0 : 0 < k) : maxK l (k + 1) = max (maxK l k) (l.getD k default) := by
  unfold maxK
  rw [take_succ_getD h, List.drop_append_of_le_length (by simp; omega), List.foldl_append]; rfl
theorem maxN_spec {l : List Nat} (h : 0 < l.length) : maxN l ∈ l ∧ ∀ x ∈ l, x ≤ maxN l := by
  have key : ∀ (L : List Nat) (b : Nat), (L.foldl max b = b ∨ L.foldl max b ∈ L) ∧ b ≤ L.foldl max b ∧ ∀ x ∈ L, x ≤ L.foldl max b := by
    intro L
    induction L with
    | nil => intro b; simp
    | cons y L ih =>
      intro b
      obtain ⟨h1, h2, h3⟩ := ih (max b y)
      simp (implicitDefEqProofs := false) (dsimp := false) only [List.foldl_cons]
      refine ⟨?_, by omega, fun x hx => ?_⟩
      · rcases h1 with h1 | h1
        · rw [h1]
          rcases Nat.le_total b y with h4 | h4
          · right; rw [Nat.max_eq_right h4]; simp
          · left; exact Nat.max_eq_left h4
        · exact .inr (by simp [h1])
      · rcases List.mem_cons.1 hx with rfl | hx
        · omega
        · exact h3 x hx
  cases l with
  | nil => simp at h
  | cons y l =>
    obtain ⟨h1, h2, h3⟩ := key l y
    show l.foldl max y ∈ y :: l ∧ ∀ x ∈ y :: l, x ≤ l.foldl max y
    refine ⟨?_, fun x hx => ?_⟩
    · rcases h1 with h1 | h1
      · rw [h1]; simp
      · simp [h1]
    · rcases List.mem_cons.1 hx with rfl | hx
      · exact h2
      · exact h3 x hx
theorem slmax_spec (l : List Nat) (hpre : 0 < l.length ∧ l.length < 2 ^ 62) : FnD Tryd.prog 108 [.l (l.map nD)] (I .i64 (maxN l : Nat)) := by
  obtain ⟨h0, h62⟩ := hpre
  refine FnD.go Tryd.func108 rfl rfl Tryd.results108 Tryd.ntmps108 ?_
  simp (implicitDefEqProofs := false) (dsimp := false) only [↓aw_cond, ↓aw_seq, ↓aw_reg, ↓Qseq_n, ↓ops_nil, ↓ops_cons, ↓eval_tmp, ↓eval_int, ↓put_some, ↓bK_b, ↓lenK_l, ↓binE_i, ↓bi_lss, ↓op_move, ↓op_assign, ↓op_bin, ↓op_len, ↓sl24, List.getD_cons_zero, List.getD_cons_succ, List.set_cons_zero, List.set_cons_succ, List.cons_append, List.nil_append, List.map_cons, List.map_nil, List.length_cons, List.length_nil, List.length_map, Nat.reduceAdd, Nat.reduceSub, Nat.reduceMul, Nat.zero_add, List.replicate, evK_go, reduceIte, Nat.reduceEqDiff, Nat.reduceLT, Int.zero_add]
  refine cdK_dec (fun h1 => by omega) (fun h1 => ?_)
  simp (implicitDefEqProofs := false) (dsimp := false) only [h0, nD, ↓atK_H, ↓atH_map, ↓aw_seq, ↓aw_block, ↓aw_skip, ↓aw_loop, ↓aw_reg, ↓Qseq_n, ↓ops_nil, ↓ops_cons, ↓eval_tmp, ↓eval_int, ↓put_some, ↓iK_i, ↓ldK_q, ↓iaK_l, ↓op_move, ↓op_assign, ↓op_load, ↓op_ia, ↓cells_c, ↓hd_cons, ↓ty3, ↓sl24, List.getD_cons_zero, List.getD_cons_succ, List.set_cons_zero, List.set_cons_succ, List.length_cons, List.length_nil, Bool.true_and, Nat.reduceAdd, Nat.reduceSub, Nat.reduceMul, Nat.zero_add, Int.toNat_zero, evK_go, reduceIte, Nat.reduceEqDiff, Nat.reduceLT, true_and, Int.zero_add]
  refine ⟨by decide, ?_⟩
  refine loopW (fun k : Nat => { tm := slots 25 [(0, .d (.l (l.map nD))), (3, .d (I .i64 (maxK l k : Nat))), (4, .d (I .i64 k))], bx := [], rw := [] })
    (fun k => k ≤ l.length ∧ 0 < k) (fun k => l.length - k) 1 (by omega) ?_ ?_
  · have e : maxK l 1 = l.getD 0 default := by
      unfold maxK
      cases l <;> rfl
    refine Wkn.of [] [] ?_; simp (implicitDefEqProofs := false) (dsimp := false) only [e, List.set_cons_zero, List.set_cons_succ, Bool.and_self, Nat.reduceAdd, Nat.reduceSub, Nat.reduceMul, List.replicate, evK_go, reduceIte, Nat.reduceEqDiff, Nat.reduceLT, and_self, List.foldl_cons, List.foldl_nil, Int.cast_ofNat_Int, slots, wkL_nil, wkL_cons, wkB_nil, wkR_nil, wkV_j, wkV_d, frz_d, reduceCtorEq]
  · rintro k ⟨hk, hk0⟩
    simp (implicitDefEqProofs := false) (dsimp := false) only [slots, ↓aw_cond, ↓aw_seq, ↓aw_reg, ↓Qseq_n, ↓ops_nil, ↓ops_cons, ↓eval_tmp, ↓put_some, ↓bK_b, ↓lenK_l, ↓binE_i, ↓bi_lss, ↓op_move, ↓op_bin, ↓op_len, ↓sl24, List.getD_cons_zero, List.getD_cons_succ, List.set_cons_zero, List.set_cons_succ, List.length_map, Nat.reduceAdd, Nat.reduceSub, Nat.reduceMul, List.replicate, evK_go, reduceIte, Nat.reduceEqDiff, Nat.reduceLT, List.foldl_cons, List.foldl_nil, Int.ofNat_lt]
    refine cdK_dec (fun h => ?_) (fun h => ?_)
    · have hs := maxK_succ h hk0
      have hmax : (if maxK l k < l.getD k default then ((l.getD k default : Nat) : Int) else ((maxK l k : Nat) : Int)) = ((max (maxK l k) (l.getD k default) : Nat) : Int) := by split <;> omega
      simp (implicitDefEqProofs := false) (dsimp := false) only [h, nD, hmax, ↓atK_H, ↓atH_map, ↓aw_seq, ↓aw_block, ↓aw_skip, ↓aw_reg, ↓Qseq_n, ↓Qblk_n, ↓ops_nil, ↓ops_cons, ↓eval_tmp, ↓eval_int, ↓put_some, ↓iK_i, ↓binE_i, ↓bi_add, ↓in_i64, ↓ldK_q, ↓iaK_l, ↓op_move, ↓op_assign, ↓op_load, ↓op_bin, ↓op_ia, ↓op_max, ↓cells_c, ↓hd_cons, ↓ty3, ↓sl24, List.getD_cons_zero, List.getD_cons_succ, List.set_cons_zero, List.set_cons_succ, List.length_cons, List.length_nil, Bool.true_and, Nat.reduceAdd, Nat.reduceSub, Nat.reduceMul, Nat.zero_add, Int.toNat_natCast, evK_go, reduceIte, decide_true, Nat.reduceEqDiff, Nat.reduceLT, true_and, Int.zero_add, Int.ofNat_lt, Int.natCast_nonneg]
      refine ⟨by omega, k + 1, by omega, by omega, ?_⟩
      refine Wkn.of [] [] ?_; simp (implicitDefEqProofs := false) (dsimp := false) only [hs, List.set_cons_zero, List.set_cons_succ, Bool.and_self, Nat.reduceAdd, Nat.reduceSub, Nat.reduceMul, List.replicate, evK_go, reduceIte, Nat.reduceEqDiff, Nat.reduceLT, and_self, List.foldl_cons, List.foldl_nil, Int.cast_ofNat_Int, Int.natCast_add, slots, wkL_nil, wkL_cons, wkB_nil, wkR_nil, wkV_j, wkV_d, frz_d, reduceCtorEq]
    · obtain rfl : k = l.length := by omega
      simp (implicitDefEqProofs := false) (dsimp := false) only [↓aw_seq, ↓aw_exit, ↓aw_ret, ↓aw_reg, ↓Qseq_n, ↓Qseq_x, ↓Qblk_x, ↓Qret_r, ↓ops_nil, ↓ops_cons, ↓eval_tmp, ↓put_some, ↓op_move, ↓op_assign, ↓td_d, ↓ret_1, List.getD_cons_zero, List.getD_cons_succ, List.set_cons_zero, List.set_cons_succ, Nat.reduceAdd, Nat.reduceSub, Nat.reduceMul, evK_go, reduceIte, decide_false, Nat.reduceEqDiff, Nat.reduceLT, Nat.lt_irrefl]
      unfold maxK maxN
      rw [List.take_length]
theorem slmax_call (l : List Nat) (pure : Bool) (σ : St) (dst : Option Tmp) (K : St → Prop) : CallH Tryd.prog 108 [.l (l.map nD)] pure σ dst (.mk : Hid K) = OrH ((0 < l.length ∧ l.length < 2 ^ 62) ∧ (pure || D.flat (I .i64 (maxN l : Nat))) = true ∧ evK (σ.put dst (.d (I .i64 (maxN l : Nat)))) (.mk : Hid K)) (.mk : Hid (CallH Tryd.prog 108 [.l (l.map nD)] pure σ dst (.mk : Hid K))) := CallH.eq (slmax_spec l) pure σ dst K
end Go.Proofs

namespace Go.Proofs
open Go.Aw
set_option linter.unusedSimpArgs false
set_option maxRecDepth 10000
end Go.Proofs

namespace Go.Proofs
open Go.Aw
set_option linter.unusedSimpArgs false
set_option maxRecDepth 10000
end Go.Proofs

namespace Go.Proofs
open Go.Aw
set_option linter.unusedSimpArgs false
set_option maxRecDepth 10000
end Go.Proofs

namespace Go.Proofs
open Go.Aw
set_option linter.unusedSimpArgs false
set_option maxRecDepth 10000
theorem goesN_spec (G : List (Nat × Nat)) (y x : Nat) (hpre : G.length < 2 ^ 62) : FnD Tryd.prog 40 [.l (G.map lnN), I .i64 (y : Int), I .i64 (x : Int)] (Bo (decide ((y, x) ∈ G))) := by
  have h := goes_spec (intL G) (y : Int) (x : Int) (by simpa [intL] using hpre)
  rw [← lnN_int] at h
  have e : decide (((y : Int), (x : Int)) ∈ intL G) = decide ((y, x) ∈ G) := by
    rw [decide_eq_decide]
    constructor
    · intro h
      obtain ⟨q, hq, e⟩ := List.mem_map.1 h
      simp (implicitDefEqProofs := false) (dsimp := false) only [intP, Prod.mk.injEq] at e
      have e1 : q.1 = y := by omega
      have e2 : q.2 = x := by omega
      rw [← e1, ← e2]; exact hq
    · intro h; exact List.mem_map.2 ⟨_, h, rfl⟩
  rw [e] at h
  exact h
theorem goesN_call (G : List (Nat × Nat)) (y x : Nat) (pure : Bool) (σ : St) (dst : Option Tmp) (K : St → Prop) : CallH Tryd.prog 40 [.l (G.map lnN), I .i64 (y : Int), I .i64 (x : Int)] pure σ dst (.mk : Hid K) = OrH ((G.length < 2 ^ 62) ∧ (pure || D.flat (Bo (decide ((y, x) ∈ G)))) = true ∧ evK (σ.put dst (.d (Bo (decide ((y, x) ∈ G))))) (.mk : Hid K)) (.mk : Hid (CallH Tryd.prog 40 [.l (G.map lnN), I .i64 (y : Int), I .i64 (x : Int)] pure σ dst (.mk : Hid K))) := CallH.eq (goesN_spec G y x) pure σ dst K
theorem goesN_callQ (G : List (Nat × Nat)) (y x : Nat) (pure : Bool) (C : V → Prop) : CallQ Tryd.prog 40 [.l (G.map lnN), I .i64 (y : Int), I .i64 (x : Int)] pure (.mk : Hid C) = OrH ((G.length < 2 ^ 62) ∧ (pure || D.flat (Bo (decide ((y, x) ∈ G)))) = true ∧ evK (V.d (Bo (decide ((y, x) ∈ G)))) (.mk : Hid C)) (.mk : Hid (CallQ Tryd.prog 40 [.l (G.map lnN), I .i64 (y : Int), I .i64 (x : Int)] pure (.mk : Hid C))) := CallQ.eq (goesN_spec G y x) pure C
end Go.Proofs

namespace Go.Proofs
open Go.Aw
set_option linter.unusedSimpArgs false
set_option maxRecDepth 10000
set_option maxHeartbeats 8000000
def ffRow (n : Nat) (f : Nat → Int) : List D := (List.range n).map fun b => I .i64 (f b)
def ffRows (n m : Nat) (F : Nat → Nat → Int) : List (Option Row) := (List.range m).map fun a => some ⟨1, ffRow n (F a)⟩
def fxL (n : Nat) (vas : List Value) : List (Value × V) := (List.range vas.length).map fun a => (vas.getD a default, V.o (a + 1) 0 n)
theorem rng_getD {n i : Nat} (h : i < n) : (List.range n).getD i default = i := by
  rw [List.getD_eq_getElem?_getD, List.getElem?_range h]; rfl
theorem ffRow_len (n : Nat) (f : Nat → Int) : (ffRow n f).length = n := by simp [ffRow]
theorem ffRows_len (n m : Nat) (F : Nat → Nat → Int) : (ffRows n m F).length = m := by simp [ffRows]
theorem ffRows_get {n m a : Nat} (F : Nat → Nat → Int) (h : a < m) : (ffRows n m F).getD a none = some ⟨1, ffRow n (F a)⟩ := by
  rw [List.getD_eq_getElem?_getD]; simp [ffRows, h]
theorem last_getD {L : List (Option Row)} {a : Nat} (h : L.length = a) (x : Option Row) : (L ++ [x]).getD a none = x := by
  subst h; simp
theorem last_set {L : List (Option Row)} {a : Nat} (h : L.length = a) (x y : Option Row) : (L ++ [x]).set a y = L ++ [y] := by
  subst h; simp
theorem ffRow_set {n : Nat} (f : Nat → Int) (b : Nat) (v : Int) : (ffRow n f).set b (I .i64 v) = ffRow n (fun j => if j = b then v else f j) := by
  refine List.ext_getElem (by simp [ffRow]) fun i h1 h2 => ?_
  rw [List.getElem_set]
  simp (implicitDefEqProofs := false) (dsimp := false) only [ffRow, List.getElem_map, List.getElem_range]
  by_cases e : b = i
  · subst e; simp
  · rw [if_neg e, if_neg (fun e' => e e'.symm)]
theorem ffRows_set {n : Nat} (F : Nat → Nat → Int) {a b : Nat} (v : Int) : (ffRows n n F).set a (some ⟨1, ffRow n (fun j => if j = b then v else F a j)⟩) = ffRows n n (updF F a b v) := by
  refine List.ext_getElem (by simp [ffRows]) fun i h1 h2 => ?_
  rw [List.getElem_set]
  simp (implicitDefEqProofs := false) (dsimp := false) only [ffRows, List.getElem_map, List.getElem_range]
  by_cases e : a = i
  · subst e
    rw [if_pos rfl]
    congr 3
    funext j
    simp [updF]
  · rw [if_neg e]
    congr 3
    funext j
    unfold updF
    rw [if_neg (fun h => e h.1.symm)]
theorem fxL_mem {n : Nat} {vas : List Value} {a : Nat} (h : a < vas.length) : (vas.getD a default, V.o (a + 1) 0 n) ∈ fxL n vas := List.mem_map.2 ⟨a, List.mem_range.2 h, rfl⟩
theorem fxL_kill (n : Nat) (vas : List Value) : (fxL n vas).map (fun p => (p.1, V.kill 0 p.2)) = fxL n vas := by
  unfold fxL
  rw [List.map_map]
  refine List.map_congr_left fun a _ => ?_
  simp [V.kill]
theorem fxL_snoc (n : Nat) (vas : List Value) (v : Value) : fxL n (vas ++ [v]) = fxL n vas ++ [(v, V.o (vas.length + 1) 0 n)] := by
  unfold fxL
  rw [List.length_append, List.length_singleton, List.range_succ, List.map_append]
  congr 1
  · refine List.map_congr_left fun a ha => ?_
    have := List.mem_range.1 ha
    rw [List.getD_eq_getElem?_getD, List.getElem?_append_left this, ← List.getD_eq_getElem?_getD]
  · simp
theorem fxL_uniq {n : Nat} {vas : List Value} {a : Nat} (hnd : vas.Nodup) (h : a < vas.length) : ∀ r' o' n', (vas.getD a default, V.o r' o' n') ∈ fxL n vas → r' = a + 1 ∧ o' = 0 ∧ n' = n := by
  intro r' o' n' hm
  obtain ⟨i, hi, e⟩ := List.mem_map.1 hm
  have hi := List.mem_range.1 hi
  simp (implicitDefEqProofs := false) (dsimp := false) only [Prod.mk.injEq, V.o.injEq] at e
  obtain ⟨e1, e2, e3, e4⟩ := e
  rw [List.getD_eq_getElem?_getD, List.getD_eq_getElem?_getD, List.getElem?_eq_getElem hi, List.getElem?_eq_getElem h] at e1
  have := (List.getElem_inj hnd).1 e1
  omega
theorem fxH_L {n : Nat} {vas : List Value} (hnd : vas.Nodup) {a : Nat} (h : a < vas.length) {F : Nat → Nat → Nat → Prop} : FxH (fxL n vas) (vas.getD a default) (.mk : Hid F) = F (a + 1) 0 n := fxH_eq (fxL_mem h) (fxL_uniq hnd h)
theorem fxL_mem_inv {n : Nat} {vas : List Value} {p : Value × V} (h : p ∈ fxL n vas) : ∃ a, a < vas.length ∧ p = (vas.getD a default, V.o (a + 1) 0 n) := by
  obtain ⟨i, hi, e⟩ := List.mem_map.1 h
  exact ⟨i, List.mem_range.1 hi, e.symm⟩
structure FP where
  a : Nat
  vas : List Value
def ffR (n : Nat) (L : List (Int × Int)) (either : Bool) (over : Int) : Nat → Nat → Int := farK n (far0 L either over) n
theorem rfar_spec (n : Nat) (L : List (Int × Int)) (either : Bool) (over : Int) (hpre : n ≤ 40 ∧ L.length < 2 ^ 62) : FnD Tryd.prog 87 [I .i64 (n : Int), .l (L.map lnD), Bo either, I .i64 over] (.l ((List.range n).map fun a => .l (ffRow n (ffR n L either over a)))) := by
  obtain ⟨hn, hL⟩ := hpre
  refine FnD.go Tryd.func87 rfl rfl Tryd.results87 Tryd.ntmps87 ?_
  simp (implicitDefEqProofs := false) (dsimp := false) only [↓aw_seq, ↓aw_block, ↓aw_loop, ↓aw_reg, ↓Qseq_n, ↓ops_nil, ↓ops_cons, ↓eval_int, ↓eval_nil, ↓put_some, ↓op_assign, List.set_cons_zero, List.set_cons_succ, List.cons_append, List.nil_append, List.map_cons, List.map_nil, List.length_cons, List.length_nil, Nat.reduceAdd, Nat.reduceSub, Nat.reduceMul, Nat.zero_add, List.replicate, evK_go, reduceIte, Nat.reduceEqDiff, Nat.reduceLT, Int.zero_add]
  refine loopW (fun x : FP => { tm := slots 157 [(0, .d (I .i64 (n : Int))), (1, .d (.l (L.map lnD))), (2, .d (Bo either)), (3, .d (I .i64 over)), (9, .o 0 0 x.a), (10, .d (I .i64 x.a))], bx := [], rw := some ⟨1, x.vas.map .c⟩ :: ffRows n x.a (far0 L either over), fx := fxL n x.vas })
    (fun x => x.a ≤ n ∧ x.vas.length = x.a ∧ x.vas.Nodup) (fun x => n - x.a) ⟨0, []⟩ ⟨by simp, rfl, List.nodup_nil⟩ ?_ ?_
  · show Wkn _ { tm := _, bx := [], rw := [some ⟨1, []⟩] }
    refine Wkn.of [] [none] ?_
    simp (implicitDefEqProofs := false) (dsimp := false) only [slots, ↓row_xs, List.set_cons_zero, List.set_cons_succ, Bool.and_self, Nat.reduceAdd, Nat.reduceSub, Nat.reduceMul, List.replicate, evK_go, reduceIte, Nat.reduceEqDiff, Nat.reduceLT, and_self, List.foldl_cons, List.foldl_nil, Int.cast_ofNat_Int, slots, wkL_nil, wkL_cons, wkB_nil, wkR_nil, wkR_new, wkV_j, wkV_d, nlK_nl, wkV_o, frz_d, oK_zn, reduceCtorEq]
  · rintro ⟨a, vas⟩ ⟨ha, hva, hnd⟩
    simp only at ha hva hnd
    have hrl := ffRows_len n a (far0 L either over)
    have hrs := ffRows_len n (a + 1) (far0 L either over)
    generalize hLw : ffRows n a (far0 L either over) = Lw at *
    simp (implicitDefEqProofs := false) (dsimp := false) only [slots, ↓aw_cond, ↓aw_seq, ↓aw_reg, ↓Qseq_n, ↓ops_nil, ↓ops_cons, ↓eval_tmp, ↓put_some, ↓bK_b, ↓binE_i, ↓bi_lss, ↓op_move, ↓op_bin, List.getD_cons_zero, List.getD_cons_succ, List.set_cons_zero, List.set_cons_succ, Nat.reduceAdd, Nat.reduceSub, Nat.reduceMul, List.replicate, evK_go, reduceIte, Nat.reduceEqDiff, Nat.reduceLT, List.foldl_cons, List.foldl_nil, Int.ofNat_lt]
    refine cdK_dec (fun h => ?_) (fun h => ?_)
    · simp (implicitDefEqProofs := false) (dsimp := false) only [↓aw_seq, ↓aw_block, ↓aw_skip, ↓aw_loop, ↓aw_reg, ↓Qseq_n, ↓ops_nil, ↓ops_cons, ↓eval_tmp, ↓eval_int, ↓put_some, ↓iK_i, ↓dK_d, ↓op_move, ↓op_assign, ↓op_make, ↓addRow_mk, ↓st_rw, ↓cells_c, ↓one_i, constV_i, ↓mk_, ↓vsz_int, ↓ty3, ↓zb3, ↓sl24, List.getD_cons_zero, List.getD_cons_succ, List.set_cons_zero, List.set_cons_succ, List.cons_append, List.length_cons, List.length_nil, List.all_cons, List.all_nil, Bool.and_true, Bool.true_and, Bool.and_self, Nat.reduceAdd, Nat.reduceSub, Nat.reduceMul, Nat.zero_add, Int.toNat_natCast, evK_go, reduceIte, Nat.reduceEqDiff, Nat.reduceLT, and_self, true_and, and_true, Int.zero_add, Int.natCast_nonneg]
      refine ⟨⟨by omega, by decide⟩, ?_⟩
      rw [hrl]
      have hfx0 : ∀ p ∈ fxL n vas, ∃ r' n' row', p.2 = V.o r' 0 n' ∧ 0 < n' ∧ r' ≠ a + 1 ∧ (some ⟨1, vas.map .c⟩ :: (Lw ++ [some ⟨1, List.replicate n (I .i64 0)⟩]) : List (Option Row)).getD r' none = some row' := fun p hp => by
        obtain ⟨i, hi, rfl⟩ := fxL_mem_inv hp
        refine ⟨i + 1, n, ⟨1, ffRow n (far0 L either over i)⟩, rfl, by omega, by omega, ?_⟩
        rw [List.getD_cons_succ, List.getD_eq_getElem?_getD, List.getElem?_append_left (by omega), ← List.getD_eq_getElem?_getD, ← hLw]
        exact ffRows_get _ (by omega)
      refine AWH.name1 11 rfl (by rw [List.getD_cons_succ]; exact last_getD hrl _) (by omega) hfx0 (fun v hv hvn => ?_)
      have hvn' : v ∉ vas := fun hm => by
        obtain ⟨i, hi, e⟩ := List.mem_iff_getElem.1 hm
        have e2 : vas.getD i default = v := by rw [List.getD_eq_getElem?_getD, List.getElem?_eq_getElem hi]; exact e
        exact hvn _ (fxL_mem hi) e2
      have hFx : ∀ {F : Nat → Nat → Nat → Prop}, FxH (fxL n vas ++ [(v, V.o (a + 1) 0 n)]) v (.mk : Hid F) = F (a + 1) 0 n := fun {F} => fxH_eq (by simp) (fun r' o' n' h => by
        rcases List.mem_append.1 h with h | h
        · exact absurd rfl (hvn _ h)
        · simp at h; omega)
      clear hfx0 hvn
      have hz : List.replicate n (I .i64 0) = ffRow n (fun j => if j < 0 then far0 L either over a j else 0) := by
        refine List.ext_getElem (by simp [ffRow]) fun i h1 h2 => ?_
        simp [ffRow]
      rw [hz]
      refine loopW (fun b : Nat => { tm := slots 157 [(0, .d (I .i64 (n : Int))), (1, .d (.l (L.map lnD))), (2, .d (Bo either)), (3, .d (I .i64 over)), (9, .o 0 0 a), (10, .d (I .i64 a)), (11, .d (.c v)), (12, .d (I .i64 b))], bx := [], rw := some ⟨1, vas.map .c⟩ :: (Lw ++ [some ⟨1, ffRow n (fun j => if j < b then far0 L either over a j else 0)⟩]), fx := fxL n vas ++ [(v, V.o (a + 1) 0 n)] })
        (fun b => b ≤ n) (fun b => n - b) 0 (by simp) ?_ ?_
      · refine Wkn.fx ?_ (fun p hp => hp)
        simp (implicitDefEqProofs := false) (dsimp := false) only [slots, tmLe_nil, tmLe_j, tmLe_s, List.set_cons_zero, List.set_cons_succ, Nat.reduceAdd, Nat.reduceSub, Nat.reduceMul, List.replicate, evK_go, reduceIte, Nat.reduceEqDiff, Nat.reduceLT, List.foldl_cons, List.foldl_nil, Int.cast_ofNat_Int]
        skip
      · intro b hb
        have hgl := ffRow_len n (fun j => if j < b then far0 L either over a j else 0)
        have hlg := fun x => last_getD hrl x
        have hls := fun x y => last_set hrl x y
        simp (implicitDefEqProofs := false) (dsimp := false) only [slots, ↓aw_cond, ↓aw_seq, ↓aw_reg, ↓Qseq_n, ↓ops_nil, ↓ops_cons, ↓eval_tmp, ↓put_some, ↓bK_b, ↓binE_i, ↓bi_lss, ↓op_move, ↓op_bin, List.getD_cons_zero, List.getD_cons_succ, List.set_cons_zero, List.set_cons_succ, Nat.reduceAdd, Nat.reduceSub, Nat.reduceMul, List.replicate, evK_go, reduceIte, Nat.reduceEqDiff, Nat.reduceLT, List.foldl_cons, List.foldl_nil, Int.ofNat_lt]
        refine cdK_dec (fun h2 => ?_) (fun h2 => ?_)
        · have hbn : b < n := by omega
          have hfin : (ffRow n (fun j => if j < b then far0 L either over a j else 0)).set b (I .i64 (far0 L either over a b)) = ffRow n (fun j => if j < b + 1 then far0 L either over a j else 0) := by
            rw [ffRow_set]
            congr 1
            funext j
            by_cases e : j = b
            · subst e; rw [if_pos rfl, if_pos (by omega)]
            · rw [if_neg e]
              by_cases e2 : j < b
              · rw [if_pos e2, if_pos (by omega)]
              · rw [if_neg e2, if_neg (by omega)]
          simp (implicitDefEqProofs := false) (dsimp := false) only [↓iaK_c, ↓hFx, hlg, hls, ↓optK_some, ↓rwK_mk_, ↓aw_cond, ↓aw_seq, ↓aw_block, ↓aw_skip, ↓aw_reg, ↓Qseq_n, ↓ops_nil, ↓ops_cons, ↓eval_tmp, ↓eval_int, ↓put_some, ↓put_none, ↓bK_b, ↓iK_i, ↓dK_d, ↓binE_i, ↓bi_eql, ↓op_move, ↓op_bin, ↓op_ia, ↓op_store, ↓setRow_mk, ↓row_sz, ↓cells_c, ↓one_i, ↓st_e, ↓ty3, ↓sl24, List.getD_cons_zero, List.getD_cons_succ, List.set_cons_zero, List.set_cons_succ, List.length_cons, List.length_nil, List.all_cons, List.all_nil, Bool.true_and, Bool.and_self, Nat.reduceAdd, Nat.reduceSub, Nat.reduceMul, Nat.zero_add, Int.toNat_natCast, evK_go, reduceIte, Nat.reduceEqDiff, Nat.reduceLT, and_self, true_and, Int.zero_add, Int.ofNat_lt, Int.natCast_nonneg, Int.natCast_inj]
          refine ⟨hbn, ?_⟩
          cases hab : decide (a = b) with
          | true =>
            have e0 : far0 L either over a b = 0 := if_pos (by simpa using hab)
            rw [e0] at hfin
            simp (implicitDefEqProofs := false) (dsimp := false) only [↓iaK_c, ↓hFx, hlg, hls, hbn, List.set_set, hfin, ↓cdK_true, ↓optK_some, ↓rwK_mk_, ↓aw_reg, ↓Qseq_n, ↓Qblk_n, ↓ops_nil, ↓ops_cons, ↓eval_tmp, ↓eval_int, ↓put_some, ↓put_none, ↓iK_i, ↓dK_d, ↓binE_i, ↓bi_add, ↓in_i64, ↓op_move, ↓op_assign, ↓op_bin, ↓op_ia, ↓op_store, ↓setRow_mk, ↓row_sz, ↓row_xs, ↓cells_c, ↓one_i, ↓st_e, ↓ty3, ↓sl24, List.getD_cons_zero, List.getD_cons_succ, List.set_cons_zero, List.set_cons_succ, List.length_cons, List.length_nil, List.all_cons, List.all_nil, Bool.true_and, Bool.and_self, Nat.reduceAdd, Nat.reduceSub, Nat.reduceMul, Nat.zero_add, Int.toNat_natCast, evK_go, reduceIte, decide_true, Nat.reduceEqDiff, Nat.reduceLT, and_self, true_and, Int.zero_add, Int.ofNat_lt, Int.natCast_nonneg]
            refine ⟨by omega, b + 1, by omega, by omega, ?_⟩
            refine Wkn.fx ?_ (fun p hp => hp)
            simp (implicitDefEqProofs := false) (dsimp := false) only [slots, tmLe_nil, tmLe_j, tmLe_s, List.set_cons_zero, List.set_cons_succ, Nat.reduceAdd, Nat.reduceSub, Nat.reduceMul, List.replicate, evK_go, reduceIte, Nat.reduceEqDiff, Nat.reduceLT, List.foldl_cons, List.foldl_nil, Int.cast_ofNat_Int, Int.natCast_add]
          | false =>
            have hab' : a ≠ b := by simpa using hab
            have e1 : far0 L either over a b = if ((a : Int) ≠ over ∧ (b : Int) ≠ over) ∧ (((a : Int), (b : Int)) ∈ L ∨ (either = true ∧ ((b : Int), (a : Int)) ∈ L)) then 1 else -1 := if_neg hab'
            by_cases ho1 : (a : Int) = over
            · rw [if_neg (fun e => e.1.1 ho1)] at e1
              rw [e1] at hfin
              simp (implicitDefEqProofs := false) (dsimp := false) only [decide_eq_true ho1, hbn, hfin, ↓cdK_false, ↓gdK_junk, ↓gdK_t, ↓gval_mk, ↓gvL_zero, ↓gvL_succ, ↓aw_cond, ↓aw_seq, ↓aw_skip, ↓aw_reg, ↓Qseq_n, ↓Qblk_n, ↓ops_nil, ↓ops_cons, ↓ops_guard, ↓eval_tmp, ↓eval_int, ↓eval_bool, ↓put_some, ↓bK_b, ↓binE_i, ↓bi_add, ↓bi_neq, ↓in_i64, ↓op_move, ↓op_assign, ↓op_pick, ↓op_bin, ↓st_tm, ↓row_sz, ↓row_xs, List.getD_cons_zero, List.getD_cons_succ, List.set_cons_zero, List.set_cons_succ, Nat.reduceAdd, Nat.reduceSub, Nat.reduceMul, evK_go, reduceIte, decide_true, Bool.not_true, Nat.reduceEqDiff, Nat.reduceLT]
              refine ⟨by omega, b + 1, by omega, by omega, ?_⟩
              refine Wkn.fx ?_ (fun p hp => hp)
              simp (implicitDefEqProofs := false) (dsimp := false) only [slots, tmLe_nil, tmLe_j, tmLe_s, List.set_cons_zero, List.set_cons_succ, Nat.reduceAdd, Nat.reduceSub, Nat.reduceMul, List.replicate, evK_go, reduceIte, Nat.reduceEqDiff, Nat.reduceLT, List.foldl_cons, List.foldl_nil, Int.cast_ofNat_Int, Int.natCast_add]
            by_cases ho2 : (b : Int) = over
            · rw [if_neg (fun e => e.1.2 ho2)] at e1
              rw [e1] at hfin
              simp (implicitDefEqProofs := false) (dsimp := false) only [decide_eq_false ho1, decide_eq_true ho2, hbn, hfin, ↓cdK_true, ↓cdK_false, ↓gdK_junk, ↓gdK_t, ↓gval_mk, ↓gvL_zero, ↓gvL_succ, ↓aw_cond, ↓aw_seq, ↓aw_skip, ↓aw_reg, ↓Qseq_n, ↓Qblk_n, ↓ops_nil, ↓ops_cons, ↓ops_guard, ↓eval_tmp, ↓eval_int, ↓eval_bool, ↓put_some, ↓bK_b, ↓binE_i, ↓bi_add, ↓bi_neq, ↓in_i64, ↓op_move, ↓op_assign, ↓op_pick, ↓op_bin, ↓st_tm, ↓row_sz, ↓row_xs, List.getD_cons_zero, List.getD_cons_succ, List.set_cons_zero, List.set_cons_succ, Nat.reduceAdd, Nat.reduceSub, Nat.reduceMul, evK_go, reduceIte, decide_true, Bool.not_true, Bool.not_false, Nat.reduceEqDiff, Nat.reduceLT]
              refine ⟨by omega, b + 1, by omega, by omega, ?_⟩
              refine Wkn.fx ?_ (fun p hp => hp)
              simp (implicitDefEqProofs := false) (dsimp := false) only [slots, tmLe_nil, tmLe_j, tmLe_s, List.set_cons_zero, List.set_cons_succ, Nat.reduceAdd, Nat.reduceSub, Nat.reduceMul, List.replicate, evK_go, reduceIte, Nat.reduceEqDiff, Nat.reduceLT, List.foldl_cons, List.foldl_nil, Int.cast_ofNat_Int, Int.natCast_add]
            simp (implicitDefEqProofs := false) (dsimp := false) only [decide_eq_false ho1, decide_eq_false ho2, goes_call, hL, ↓cdK_true, ↓cdK_false, ↓gdK_t, ↓gdK_f, ↓gval_mk, ↓gvL_zero, ↓gvL_succ, ↓aw_seq, ↓aw_reg, ↓ops_cons, ↓ops_guard, ↓eval_tmp, ↓eval_func, ↓put_some, ↓bK_b, ↓binE_i, ↓bi_neq, ↓op_move, ↓op_pick, ↓op_bin, ↓op_call, isD_d, ↓fnK_f, ↓call_H, ↓callK_H, ↓allT_nil, ↓allT_cons, ↓td_d, ↓st_tm, ↓row_sz, ↓row_xs, List.getD_cons_zero, List.getD_cons_succ, List.set_cons_zero, List.set_cons_succ, List.append_nil, List.all_cons, List.all_nil, Bool.true_and, Bool.and_self, Bool.true_or, Nat.reduceAdd, Nat.reduceSub, Nat.reduceMul, evK_go, reduceIte, Bool.not_false, Nat.reduceEqDiff, Nat.reduceLT, and_self, true_and]
            (repeat refine OrH.l ?_)
            by_cases hg1 : ((a : Int), (b : Int)) ∈ L
            · rw [if_pos ⟨⟨ho1, ho2⟩, .inl hg1⟩] at e1
              rw [e1] at hfin
              simp (implicitDefEqProofs := false) (dsimp := false) only [decide_eq_true hg1, ↓iaK_c, ↓hFx, hlg, hls, hbn, List.set_set, hfin, ↓cdK_true, ↓gdK_junk, ↓gdK_t, ↓gdK_f, ↓gval_mk, ↓gvL_zero, ↓gvL_succ, ↓optK_some, ↓rwK_mk_, ↓aw_cond, ↓aw_reg, ↓Qseq_n, ↓Qblk_n, ↓ops_nil, ↓ops_cons, ↓ops_guard, ↓eval_tmp, ↓eval_int, ↓eval_bool, ↓put_some, ↓put_none, ↓bK_b, ↓iK_i, ↓dK_d, ↓binE_i, ↓bi_add, ↓in_i64, ↓op_move, ↓op_assign, ↓op_pick, ↓op_bin, ↓op_ia, ↓op_store, ↓setRow_mk, ↓st_tm, ↓row_sz, ↓row_xs, ↓cells_c, ↓one_i, ↓st_e, ↓ty3, ↓sl24, List.getD_cons_zero, List.getD_cons_succ, List.set_cons_zero, List.set_cons_succ, List.length_cons, List.length_nil, List.all_cons, List.all_nil, Bool.true_and, Bool.and_self, Nat.reduceAdd, Nat.reduceSub, Nat.reduceMul, Nat.zero_add, Int.toNat_natCast, evK_go, reduceIte, decide_true, Nat.reduceEqDiff, Nat.reduceLT, and_self, true_and, Int.zero_add, Int.ofNat_lt, Int.natCast_nonneg]
              refine ⟨by omega, b + 1, by omega, by omega, ?_⟩
              refine Wkn.fx ?_ (fun p hp => hp)
              simp (implicitDefEqProofs := false) (dsimp := false) only [slots, tmLe_nil, tmLe_j, tmLe_s, List.set_cons_zero, List.set_cons_succ, Nat.reduceAdd, Nat.reduceSub, Nat.reduceMul, List.replicate, evK_go, reduceIte, Nat.reduceEqDiff, Nat.reduceLT, List.foldl_cons, List.foldl_nil, Int.cast_ofNat_Int, Int.natCast_add]
            cases heb : either with
            | false =>
              subst heb
              rw [if_neg (fun e => e.2.elim hg1 fun e => by cases e.1)] at e1
              rw [e1] at hfin
              simp (implicitDefEqProofs := false) (dsimp := false) only [decide_eq_false hg1, hbn, hfin, ↓cdK_true, ↓cdK_false, ↓gdK_t, ↓gdK_f, ↓gval_mk, ↓gvL_zero, ↓gvL_succ, ↓aw_cond, ↓aw_skip, ↓aw_reg, ↓Qseq_n, ↓Qblk_n, ↓ops_nil, ↓ops_cons, ↓ops_guard, ↓eval_tmp, ↓eval_int, ↓eval_bool, ↓put_some, ↓bK_b, ↓binE_i, ↓bi_add, ↓in_i64, ↓op_move, ↓op_assign, ↓op_pick, ↓op_bin, ↓st_tm, List.getD_cons_zero, List.getD_cons_succ, List.set_cons_zero, List.set_cons_succ, Nat.reduceAdd, Nat.reduceSub, Nat.reduceMul, evK_go, reduceIte, decide_true, Nat.reduceEqDiff, Nat.reduceLT]
              refine ⟨by omega, b + 1, by omega, by omega, ?_⟩
              refine Wkn.fx ?_ (fun p hp => hp)
              simp (implicitDefEqProofs := false) (dsimp := false) only [slots, tmLe_nil, tmLe_j, tmLe_s, List.set_cons_zero, List.set_cons_succ, Nat.reduceAdd, Nat.reduceSub, Nat.reduceMul, List.replicate, evK_go, reduceIte, Nat.reduceEqDiff, Nat.reduceLT, List.foldl_cons, List.foldl_nil, Int.cast_ofNat_Int, Int.natCast_add]
            | true =>
              subst heb
              simp (implicitDefEqProofs := false) (dsimp := false) only [decide_eq_false hg1, goes_call, hL, ↓cdK_true, ↓cdK_false, ↓gdK_t, ↓gdK_f, ↓gval_mk, ↓gvL_zero, ↓gvL_succ, ↓aw_cond, ↓Qseq_n, ↓ops_nil, ↓ops_cons, ↓ops_guard, ↓eval_tmp, ↓eval_func, ↓put_some, ↓bK_b, ↓op_move, ↓op_pick, ↓op_call, isD_d, ↓fnK_f, ↓call_H, ↓callK_H, ↓allT_nil, ↓allT_cons, ↓td_d, ↓st_tm, List.getD_cons_zero, List.getD_cons_succ, List.set_cons_zero, List.set_cons_succ, List.append_nil, List.all_cons, List.all_nil, Bool.true_and, Bool.and_self, Bool.true_or, Nat.reduceAdd, Nat.reduceSub, Nat.reduceMul, evK_go, reduceIte, Nat.reduceEqDiff, Nat.reduceLT, and_self, true_and]
              (repeat refine OrH.l ?_)
              by_cases hg2 : ((b : Int), (a : Int)) ∈ L
              · rw [if_pos ⟨⟨ho1, ho2⟩, .inr ⟨rfl, hg2⟩⟩] at e1
                rw [e1] at hfin
                simp (implicitDefEqProofs := false) (dsimp := false) only [decide_eq_true hg2, ↓iaK_c, ↓hFx, hlg, hls, hbn, List.set_set, hfin, ↓cdK_true, ↓optK_some, ↓rwK_mk_, ↓aw_reg, ↓Qseq_n, ↓Qblk_n, ↓ops_nil, ↓ops_cons, ↓eval_tmp, ↓eval_int, ↓put_some, ↓put_none, ↓iK_i, ↓dK_d, ↓binE_i, ↓bi_add, ↓in_i64, ↓op_move, ↓op_assign, ↓op_bin, ↓op_ia, ↓op_store, ↓setRow_mk, ↓row_sz, ↓row_xs, ↓cells_c, ↓one_i, ↓st_e, ↓ty3, ↓sl24, List.getD_cons_zero, List.getD_cons_succ, List.set_cons_zero, List.set_cons_succ, List.length_cons, List.length_nil, List.all_cons, List.all_nil, Bool.true_and, Bool.and_self, Nat.reduceAdd, Nat.reduceSub, Nat.reduceMul, Nat.zero_add, Int.toNat_natCast, evK_go, reduceIte, decide_true, Nat.reduceEqDiff, Nat.reduceLT, and_self, true_and, Int.zero_add, Int.ofNat_lt, Int.natCast_nonneg]
                refine ⟨by omega, b + 1, by omega, by omega, ?_⟩
                refine Wkn.fx ?_ (fun p hp => hp)
                simp (implicitDefEqProofs := false) (dsimp := false) only [slots, tmLe_nil, tmLe_j, tmLe_s, List.set_cons_zero, List.set_cons_succ, Nat.reduceAdd, Nat.reduceSub, Nat.reduceMul, List.replicate, evK_go, reduceIte, Nat.reduceEqDiff, Nat.reduceLT, List.foldl_cons, List.foldl_nil, Int.cast_ofNat_Int, Int.natCast_add]
              · rw [if_neg (fun e => e.2.elim hg1 fun e => hg2 e.2)] at e1
                rw [e1] at hfin
                simp (implicitDefEqProofs := false) (dsimp := false) only [decide_eq_false hg2, hbn, hfin, ↓cdK_false, ↓aw_skip, ↓aw_reg, ↓Qseq_n, ↓Qblk_n, ↓ops_nil, ↓ops_cons, ↓eval_tmp, ↓eval_int, ↓put_some, ↓binE_i, ↓bi_add, ↓in_i64, ↓op_move, ↓op_assign, ↓op_bin, List.getD_cons_zero, List.getD_cons_succ, List.set_cons_zero, List.set_cons_succ, Nat.reduceAdd, Nat.reduceSub, Nat.reduceMul, evK_go, reduceIte, decide_true, Nat.reduceEqDiff, Nat.reduceLT]
                refine ⟨by omega, b + 1, by omega, by omega, ?_⟩
                refine Wkn.fx ?_ (fun p hp => hp)
                simp (implicitDefEqProofs := false) (dsimp := false) only [slots, tmLe_nil, tmLe_j, tmLe_s, List.set_cons_zero, List.set_cons_succ, Nat.reduceAdd, Nat.reduceSub, Nat.reduceMul, List.replicate, evK_go, reduceIte, Nat.reduceEqDiff, Nat.reduceLT, List.foldl_cons, List.foldl_nil, Int.cast_ofNat_Int, Int.natCast_add]
        · obtain rfl : b = n := by omega
          have hx1 : ffRow b (fun j => if j < b then far0 L either over a j else 0) = ffRow b (far0 L either over a) := by
            unfold ffRow
            refine List.map_congr_left fun j hj => ?_
            show I .i64 (if j < b then far0 L either over a j else 0) = _
            rw [if_pos (List.mem_range.1 hj)]
          have hx2 : ffRows b (a + 1) (far0 L either over) = Lw ++ [some ⟨1, ffRow b (far0 L either over a)⟩] := by
            rw [← hLw]
            unfold ffRows
            rw [List.range_succ, List.map_append]
            rfl
          simp (implicitDefEqProofs := false) (dsimp := false) only [↓optK_some, ↓rwK_mk_, ↓aw_seq, ↓aw_block, ↓aw_exit, ↓aw_loop, ↓aw_reg, ↓Qseq_n, ↓Qseq_x, ↓Qblk_n, ↓Qblk_x, ↓ops_nil, ↓ops_cons, ↓eval_tmp, ↓eval_int, ↓put_some, ↓dK_d, ↓binE_i, ↓bi_add, ↓in_i64, ↓op_move, ↓op_assign, ↓op_bin, ↓op_append, ↓allD_nil, ↓allD_cons, ↓app_mk, ↓row_sz, ↓row_xs, kill_d, kill_j, kill_o, ↓cells_c, ↓ap_, ↓ap_o, ↓src_l, ↓bs_, ↓op_bs, ↓bsL_f, ↓stored_mk, ↓sl_nil, ↓sl_cons, ↓sT_move, ↓sT_assign, ↓sT_bs, ↓sT_call, ↓vsz_slice, ↓inO_1, ↓fm_nil, ↓fm_cons, ↓ty24, ↓zb24, ↓sl69, List.getD_cons_zero, List.getD_cons_succ, List.set_cons_zero, List.set_cons_succ, List.map_cons, List.map_nil, List.length_cons, List.length_nil, List.length_map, List.all_cons, List.all_nil, Bool.and_true, Bool.true_and, Bool.and_self, Bool.or_false, Nat.reduceAdd, Nat.reduceSub, Nat.reduceMul, Nat.zero_add, evK_go, reduceIte, decide_false, Nat.reduceEqDiff, Nat.reduceLT, and_self, true_and, and_true, Nat.lt_irrefl, Int.zero_add, List.drop_zero]
          refine ⟨by decide, hv, hv, ⟨fun _ => trivial, hva.symm, by omega, by omega⟩, by omega, ⟨a + 1, vas ++ [v]⟩, ⟨by show a + 1 ≤ b; omega, by simp [hva], ?_⟩, by show b - (a + 1) < b - a; omega, ?_⟩
          · refine List.nodup_append.2 ⟨hnd, by simp, fun x hx y hy e => ?_⟩
            rw [List.mem_singleton.1 hy] at e
            exact hvn' (e ▸ hx)
          · rw [hx1, List.map_append, fxL_kill]
            show Wkn _ { tm := _, bx := [], rw := some ⟨1, (vas ++ [v]).map .c⟩ :: ffRows b (a + 1) (far0 L either over), fx := fxL b (vas ++ [v]) }
            rw [hx2, fxL_snoc, hva, List.map_append]
            refine Wkn.fx ?_ (fun p hp => by simpa [V.kill] using hp)
            simp (implicitDefEqProofs := false) (dsimp := false) only [slots, tmLe_nil, tmLe_j, tmLe_s, List.set_cons_zero, List.set_cons_succ, Nat.reduceAdd, Nat.reduceSub, Nat.reduceMul, List.replicate, evK_go, reduceIte, Nat.reduceEqDiff, Nat.reduceLT, List.foldl_cons, List.foldl_nil, Int.cast_ofNat_Int, Int.natCast_add]
            skip
    · obtain rfl : a = n := by omega
      subst hLw
      have hF0 := far0_b L either over
      have hres : ffR a L either over = farK a (far0 L either over) a := rfl
      rw [hres]
      generalize far0 L either over = F0 at *
      simp (implicitDefEqProofs := false) (dsimp := false) only [↓aw_seq, ↓aw_block, ↓aw_exit, ↓aw_loop, ↓aw_reg, ↓Qseq_n, ↓Qseq_x, ↓Qblk_x, ↓ops_nil, ↓ops_cons, ↓eval_int, ↓put_some, ↓op_assign, List.set_cons_zero, List.set_cons_succ, Nat.reduceAdd, Nat.reduceSub, Nat.reduceMul, evK_go, reduceIte, decide_false, Nat.reduceEqDiff, Nat.reduceLT, Nat.lt_irrefl]
      refine loopX (fun k : Nat => { tm := slots 157 [(0, .d (I .i64 (a : Int))), (9, .o 0 0 a), (13, .d (I .i64 k))], bx := [], rw := some ⟨1, vas.map .c⟩ :: ffRows a a (farK a F0 k), fx := fxL a vas })
        (fun k => k ≤ a) (fun k => a - k) 4 (fun _ : Unit => { tm := slots 157 [(9, .d (.l ((List.range a).map fun b => .l (ffRow a (farK a F0 a b)))))], bx := [], rw := [] }) (fun _ => True) 0 (by simp) ?_ ?_ ?_
      · refine Wkn.fx ?_ (fun p hp => hp)
        simp (implicitDefEqProofs := false) (dsimp := false) only [slots, tmLe_nil, tmLe_j, tmLe_s, List.set_cons_zero, List.set_cons_succ, Nat.reduceAdd, Nat.reduceSub, Nat.reduceMul, List.replicate, evK_go, reduceIte, Nat.reduceEqDiff, Nat.reduceLT, List.foldl_cons, List.foldl_nil, Int.cast_ofNat_Int]
      · intro k hk
        simp (implicitDefEqProofs := false) (dsimp := false) only [slots, ↓aw_cond, ↓aw_seq, ↓aw_reg, ↓Qseq_n, ↓ops_nil, ↓ops_cons, ↓eval_tmp, ↓put_some, ↓bK_b, ↓binE_i, ↓bi_lss, ↓op_move, ↓op_bin, List.getD_cons_zero, List.getD_cons_succ, List.set_cons_zero, List.set_cons_succ, Nat.reduceAdd, Nat.reduceSub, Nat.reduceMul, List.replicate, evK_go, reduceIte, Nat.reduceEqDiff, Nat.reduceLT, List.foldl_cons, List.foldl_nil, Int.ofNat_lt]
        refine cdK_dec (fun h2 => ?_) (fun h2 => ?_)
        · have hka : k < a := by omega
          have hmid := farK_mid a hF0 k
          have hKs : farK a F0 (k + 1) = farA a (farK a F0 k) k a := rfl
          generalize farK a F0 k = FK at hmid hKs ⊢
          simp (implicitDefEqProofs := false) (dsimp := false) only [↓aw_seq, ↓aw_block, ↓aw_skip, ↓aw_loop, ↓aw_reg, ↓Qseq_n, ↓ops_nil, ↓ops_cons, ↓eval_int, ↓put_some, ↓op_assign, List.set_cons_zero, List.set_cons_succ, Nat.reduceAdd, Nat.reduceSub, Nat.reduceMul, evK_go, reduceIte, Nat.reduceEqDiff, Nat.reduceLT]
          refine loopW (fun i : Nat => { tm := slots 157 [(0, .d (I .i64 (a : Int))), (9, .o 0 0 a), (13, .d (I .i64 k)), (14, .d (I .i64 i))], bx := [], rw := some ⟨1, vas.map .c⟩ :: ffRows a a (farA a FK k i), fx := fxL a vas })
            (fun i => i ≤ a) (fun i => a - i) 0 (by simp) ?_ ?_
          · refine Wkn.fx ?_ (fun p hp => hp)
            simp (implicitDefEqProofs := false) (dsimp := false) only [slots, tmLe_nil, tmLe_j, tmLe_s, List.set_cons_zero, List.set_cons_succ, Nat.reduceAdd, Nat.reduceSub, Nat.reduceMul, List.replicate, evK_go, reduceIte, Nat.reduceEqDiff, Nat.reduceLT, List.foldl_cons, List.foldl_nil, Int.cast_ofNat_Int]
          · intro i hi
            simp (implicitDefEqProofs := false) (dsimp := false) only [slots, ↓aw_cond, ↓aw_seq, ↓aw_reg, ↓Qseq_n, ↓ops_nil, ↓ops_cons, ↓eval_tmp, ↓put_some, ↓bK_b, ↓binE_i, ↓bi_lss, ↓op_move, ↓op_bin, List.getD_cons_zero, List.getD_cons_succ, List.set_cons_zero, List.set_cons_succ, Nat.reduceAdd, Nat.reduceSub, Nat.reduceMul, List.replicate, evK_go, reduceIte, Nat.reduceEqDiff, Nat.reduceLT, List.foldl_cons, List.foldl_nil, Int.ofNat_lt]
            refine cdK_dec (fun h3 => ?_) (fun h3 => ?_)
            · have hia : i < a := by omega
              have hmi := hmid.a (n := a) i
              have hAs : farA a FK k (i + 1) = farB (farA a FK k i) k i a := rfl
              generalize farA a FK k i = FA at hmi hAs ⊢
              simp (implicitDefEqProofs := false) (dsimp := false) only [↓aw_seq, ↓aw_block, ↓aw_skip, ↓aw_loop, ↓aw_reg, ↓Qseq_n, ↓ops_nil, ↓ops_cons, ↓eval_int, ↓put_some, ↓op_assign, List.set_cons_zero, List.set_cons_succ, Nat.reduceAdd, Nat.reduceSub, Nat.reduceMul, evK_go, reduceIte, Nat.reduceEqDiff, Nat.reduceLT]
              refine loopW (fun j : Nat => { tm := slots 157 [(0, .d (I .i64 (a : Int))), (9, .o 0 0 a), (13, .d (I .i64 k)), (14, .d (I .i64 i)), (15, .d (I .i64 j))], bx := [], rw := some ⟨1, vas.map .c⟩ :: ffRows a a (farB FA k i j), fx := fxL a vas })
                (fun j => j ≤ a) (fun j => a - j) 0 (by simp) ?_ ?_
              · refine Wkn.fx ?_ (fun p hp => hp)
                simp (implicitDefEqProofs := false) (dsimp := false) only [slots, tmLe_nil, tmLe_j, tmLe_s, List.set_cons_zero, List.set_cons_succ, Nat.reduceAdd, Nat.reduceSub, Nat.reduceMul, List.replicate, evK_go, reduceIte, Nat.reduceEqDiff, Nat.reduceLT, List.foldl_cons, List.foldl_nil, Int.cast_ofNat_Int]
              · intro j hj
                simp (implicitDefEqProofs := false) (dsimp := false) only [slots, ↓aw_cond, ↓aw_seq, ↓aw_reg, ↓Qseq_n, ↓ops_nil, ↓ops_cons, ↓eval_tmp, ↓put_some, ↓bK_b, ↓binE_i, ↓bi_lss, ↓op_move, ↓op_bin, List.getD_cons_zero, List.getD_cons_succ, List.set_cons_zero, List.set_cons_succ, Nat.reduceAdd, Nat.reduceSub, Nat.reduceMul, List.replicate, evK_go, reduceIte, Nat.reduceEqDiff, Nat.reduceLT, List.foldl_cons, List.foldl_nil, Int.ofNat_lt]
                refine cdK_dec (fun h4 => ?_) (fun h4 => ?_)
                · have hja : j < a := by omega
                  have hmj := hmi.b i j
                  have hBs : farB FA k i (j + 1) = relF (farB FA k i j) k i j := rfl
                  generalize farB FA k i j = F at hmj hBs ⊢
                  have hgi := ffRows_get (n := a) F hia
                  have hgk := ffRows_get (n := a) F hka
                  have hiv : i < vas.length := by omega
                  have hkv : k < vas.length := by omega
                  have hFi : ∀ {F : Nat → Nat → Nat → Prop}, FxH (fxL a vas) (vas.getD i default) (.mk : Hid F) = F (i + 1) 0 a := fun {F} => fxH_L hnd hiv
                  have hFk : ∀ {F : Nat → Nat → Nat → Prop}, FxH (fxL a vas) (vas.getD k default) (.mk : Hid F) = F (k + 1) 0 a := fun {F} => fxH_L hnd hkv
                  have hlr : (List.range a).length = a := List.length_range
                  have hri := rng_getD hia
                  have hrk := rng_getD hka
                  have hrj := rng_getD hja
                  have b1 := mid_small hmj hka hn i k
                  have b2 := mid_small hmj hka hn k j
                  by_cases c1 : 0 ≤ F i k
                  rotate_left
                  · have d1 := decide_eq_false c1
                    simp (implicitDefEqProofs := false) (dsimp := false) (maxSteps := 3000000) only [d1, ↓iaK_c, ↓hFi, ↓hFk, hgi, hgk, hiv, hkv, hva, hia, hka, hja, hlr, hri, hrk, hrj, ffRow, eval_nilI, ↓er_neq0, ↓er_eql0, ↓er_neq, ↓er_eql, ↓bo_eql, ↓bo_neq, lnD_cells, lnN_cells, er_one, er_flat, rflat_U, rflat_nD, rflat_I, rflat_nil, ↓cdK_true, ↓cdK_false, ↓cdK_not, ↓gdK_tt, ↓gdK_tf, ↓gdK_ft, ↓gdK_ff, ↓gdK_junk, ↓gdK_t, ↓gdK_f, ↓gval_mk, ↓gvL_zero, ↓gvL_succ, ↓optK_some, ↓rwK_mk_, ↓atK_H, ↓atH_map, ↓atH_appmap, ↓nthK_H, ↓nthH_zero, ↓nthH_succ, ↓aw_cond, ↓aw_seq, ↓aw_block, ↓aw_exit, ↓aw_ret, ↓aw_skip, ↓aw_loop, ↓aw_rng, ↓aw_reg, ↓aw_draw, ↓Qseq_n, ↓Qseq_x, ↓Qseq_r, ↓Qblk_n, ↓Qblk_r, ↓Qblk_x, ↓Qblk_here, ↓Qret_r, ↓Qret_n, ↓ops_nil, ↓ops_cons, ↓ops_guard, ↓eval_tmp, ↓eval_int, ↓eval_bool, ↓eval_nil, ↓eval_agg, ↓eval_func, ↓put_some, ↓put_none, ↓bK_b, ↓iK_i, ↓dK_d, ↓dK_nl, ↓lenK_nl, ↓lenK_l, ↓lenK_o, ↓ev_move, ↓ev_assign, ↓ev_pick, ↓ev_load, ↓ev_bin, ↓ev_not, ↓ev_fa, ↓ev_ia, ↓sK_s, ↓tK_t, ↓vK_c, ↓ev_index, ↓ev_extract, ↓ev_iface, ↓ev_func, ↓capsK_nil, ↓capsK_cons, ↓ev_slice, ↓optI_none, ↓optI_some, ↓ev_build, ↓ev_len, ↓ev_max, ↓binE_i, ↓binE_shl, ↓binE_shr, ↓bi_add, ↓bi_sub, ↓bi_mul, ↓bi_quo, ↓bi_rem, ↓bi_eql, ↓bi_neq, ↓bi_lss, ↓bi_leq, ↓bi_gtr, ↓bi_geq, ↓bi_and, ↓bi_or, ↓bi_andNot, ↓bi_shl1, ↓bi_shr, ↓in_i64, ↓in_u64, ↓ldK_q, ↓sboxK_s, ↓ldK_p, ↓ldK_e, ↓faK_q, ↓faK_p, ↓faK_e, ↓iaK_l, ↓iaK_o, ↓sliK_nl, ↓sliK_l, ↓sliK_o, ↓op_move, ↓op_assign, ↓op_pick, ↓op_load, ↓op_bin, ↓op_not, ↓op_fa, ↓op_ia, ↓op_index, ↓op_extract, ↓op_iface, ↓op_func, ↓op_slice, ↓op_build, ↓op_len, ↓op_max, ↓op_append, ↓op_call, ↓op_alloc, ↓op_box, ↓op_store, ↓op_make, ↓orH_T, isD_d, isD_nl, isD_o, isD_p, isD_fp, ↓fnK_f, ↓call_H, ↓callK_H, ↓callKQ_H, ↓allT_nil, ↓allT_cons, ↓allD_nil, ↓allD_cons, ↓td_d, ↓td_nl, ↓td_o, ↓boxK_d, ↓td_p, ↓td_fp, ↓bq_nil, ↓bq_cons, ↓ret_1, ↓ret_2, ↓ret_3, ↓draw_H, ↓h_nil, ↓h_cons, ↓ldH_t, ↓ldH_n, ↓ldH_g, ↓q_call, ↓q_bi, ↓q_bs, ↓q_move, ↓q_assign, ↓q_pick, ↓q_load, ↓q_bin, ↓q_un, ↓q_fa, ↓q_ia, ↓q_index, ↓q_extract, ↓q_iface, ↓q_func, ↓q_slice, ↓q_build, ↓il_move, ↓il_assign, ↓il_pick, ↓il_load, ↓il_bin, ↓il_un, ↓il_fa, ↓il_ia, ↓il_index, ↓il_extract, ↓il_iface, ↓il_func, ↓il_slice, ↓il_build, ↓il_bs, ↓il_call, ↓il_len, ↓il_max, ↓il_append, ↓il_store, ↓il_alloc, ↓il_box, ↓il_make, ↓addBox_mk, ↓addRow_mk, ↓setBox_mk, ↓setRow_mk, ↓app_mk, ↓st_tm, ↓st_bx, ↓st_rw, ↓st_gh, ↓row_sz, ↓row_xs, kill_d, kill_j, kill_nl, kill_p, kill_fp, kill_o, kill_e, kill_junk, ↓cells_i, ↓cells_b, ↓cells_c, ↓cells_s, ↓cells_l, ↓cells_q, ↓vcells_i, ↓vcells_b, ↓vcells_c, ↓vcells_l, ↓vcells_q, ↓vcells_s, ↓vcells_j, ↓vcells_nl, ↓vcells_o, ↓vcells_p, ↓one_i, ↓one_b, ↓one_l, ↓one_q, ↓one_iface, ↓vone_d, ↓vone_nl, ↓vone_o, ↓vone_p, constV_i, constV_b, constV_n, constV_a, ↓st_p, ↓st_e, ↓ap_, ↓ap_nl, ↓ap_o, ↓src_nl, ↓src_l, ↓src_o, ↓mk_, ↓bs_, ↓op_bs, ↓bsL_t, ↓bsL_f, ↓stored_mk, ↓sl_nil, ↓sl_cons, ↓st_store_t, ↓st_store_c, ↓sT_move, ↓sT_assign, ↓sT_pick, ↓sT_load, ↓sT_bin, ↓sT_un, ↓sT_fa, ↓sT_ia, ↓sT_index, ↓sT_extract, ↓sT_iface, ↓sT_func, ↓sT_slice, ↓sT_build, ↓sT_bs, ↓sT_call, ↓sT_alloc, ↓sT_box, ↓sT_make, ↓beq_some, ↓vsz_int, ↓vsz_bool, ↓vsz_slice, ↓vsz_agg, ↓inO_1, ↓inO_2, ↓inO_3, ↓inO_4, ↓fm_nil, ↓fm_cons, ↓take_map, ↓take_all, ↓res_H, ↓resH_d, ↓resH_row, ↓hd_cons, ↓Qrow_n, ↓Qrow_r, ↓rowK_nl, ↓rowK_o, ↓Qn_n, ↓Qrd_n, ↓Qrd_r, ↓Qrd_x, ↓back_mk, ↓ty2, ↓zb2, ↓ty3, ↓zb3, ↓ty4, ↓zb4, ↓ty22, ↓sl22, ↓zb22, ↓ty24, ↓sl24, ↓zb24, ↓ty29, ↓ty40, ↓zb40, ↓fd40_0, ↓fd40_1, ↓bd40, ↓ty41, ↓zb41, ↓fd41_0, ↓fd41_1, ↓bd41, ↓ty45, ↓sl45, ↓zb45, ↓ty46, ↓sl46, ↓zb46, ↓ty69, ↓sl69, ↓zb69, ↓ty90, ↓zb90, ↓fd90_0, ↓fd90_1, ↓bd90, ↓ty91, ↓zb91, ↓fd91_0, ↓fd91_1, ↓bd91, ↓ty92, ↓zb92, ↓fd92_0, ↓fd92_1, ↓bd92, ↓ty93, ↓zb93, ↓fd93_0, ↓fd93_1, ↓bd93, ↓ty99, ↓sl99, ↓zb99, ↓ty101, ↓zb101, ↓ty102, ↓zb102, ↓ty108, ↓zb108, ↓nc108, ↓ty114, ↓zb114, ↓ar114, ↓bd114, ↓ty118, ↓zb118, ↓ar118, ↓bd118, ↓ty126, ↓ty153, ↓sl153, ↓zb153, ↓ty176, ↓zb176, ↓ty183, List.getD_cons_zero, List.getD_cons_succ, List.set_cons_zero, List.set_cons_succ, List.cons_append, List.nil_append, List.append_nil, List.map_cons, List.map_nil, List.length_cons, List.length_nil, List.length_map, List.all_cons, List.all_nil, Bool.and_true, Bool.true_and, Bool.and_self, Bool.and_false, Bool.false_and, Bool.or_true, Bool.true_or, Bool.or_false, Bool.false_or, Nat.reduceAdd, Nat.reduceSub, Nat.reduceMul, Nat.zero_add, Nat.add_zero, Int.toNat_natCast, Int.toNat_zero, Int.toNat_one, List.replicate, evK_go, reduceIte, decide_true, decide_false, Bool.not_true, Bool.not_false, Nat.reduceEqDiff, Nat.reduceLT, and_self, true_and, and_true, ne_eq, not_true_eq_false, not_false_eq_true, Nat.lt_irrefl, Option.getD_none, Option.getD_some, Nat.add_eq, Int.zero_add, List.length_replicate, List.drop_zero, List.take_succ_cons, List.drop_succ_cons, List.take_zero, List.take_nil, List.drop_nil, List.foldl_cons, List.foldl_nil, List.toList_toArray, Int.cast_ofNat_Int, Int.natCast_add, Int.ofNat_lt, Int.ofNat_le, Int.natCast_nonneg, Int.natCast_inj]
                    refine OrH.l ⟨DrawH.of follows_mixed (by kernel_rfl), ?_⟩
                    rw [relF, if_neg (by omega)] at hBs
                    refine ⟨by omega, j + 1, by omega, by omega, ?_⟩
                    rw [hBs]
                    refine Wkn.fx ?_ (fun p hp => hp)
                    simp (implicitDefEqProofs := false) (dsimp := false) only [slots, tmLe_nil, tmLe_j, tmLe_s, List.set_cons_zero, List.set_cons_succ, Nat.reduceAdd, Nat.reduceSub, Nat.reduceMul, List.replicate, evK_go, reduceIte, Nat.reduceEqDiff, Nat.reduceLT, List.foldl_cons, List.foldl_nil, Int.cast_ofNat_Int, Int.natCast_add]
                  have d1 := decide_eq_true c1
                  by_cases c2 : 0 ≤ F k j
                  rotate_left
                  · have d2 := decide_eq_false c2
                    simp (implicitDefEqProofs := false) (dsimp := false) (maxSteps := 3000000) only [d1, d2, ↓iaK_c, ↓hFi, ↓hFk, hgi, hgk, hiv, hkv, hva, hia, hka, hja, hlr, hri, hrk, hrj, ffRow, eval_nilI, ↓er_neq0, ↓er_eql0, ↓er_neq, ↓er_eql, ↓bo_eql, ↓bo_neq, lnD_cells, lnN_cells, er_one, er_flat, rflat_U, rflat_nD, rflat_I, rflat_nil, ↓cdK_true, ↓cdK_false, ↓cdK_not, ↓gdK_tt, ↓gdK_tf, ↓gdK_ft, ↓gdK_ff, ↓gdK_junk, ↓gdK_t, ↓gdK_f, ↓gval_mk, ↓gvL_zero, ↓gvL_succ, ↓optK_some, ↓rwK_mk_, ↓atK_H, ↓atH_map, ↓atH_appmap, ↓nthK_H, ↓nthH_zero, ↓nthH_succ, ↓aw_cond, ↓aw_seq, ↓aw_block, ↓aw_exit, ↓aw_ret, ↓aw_skip, ↓aw_loop, ↓aw_rng, ↓aw_reg, ↓aw_draw, ↓Qseq_n, ↓Qseq_x, ↓Qseq_r, ↓Qblk_n, ↓Qblk_r, ↓Qblk_x, ↓Qblk_here, ↓Qret_r, ↓Qret_n, ↓ops_nil, ↓ops_cons, ↓ops_guard, ↓eval_tmp, ↓eval_int, ↓eval_bool, ↓eval_nil, ↓eval_agg, ↓eval_func, ↓put_some, ↓put_none, ↓bK_b, ↓iK_i, ↓dK_d, ↓dK_nl, ↓lenK_nl, ↓lenK_l, ↓lenK_o, ↓ev_move, ↓ev_assign, ↓ev_pick, ↓ev_load, ↓ev_bin, ↓ev_not, ↓ev_fa, ↓ev_ia, ↓sK_s, ↓tK_t, ↓vK_c, ↓ev_index, ↓ev_extract, ↓ev_iface, ↓ev_func, ↓capsK_nil, ↓capsK_cons, ↓ev_slice, ↓optI_none, ↓optI_some, ↓ev_build, ↓ev_len, ↓ev_max, ↓binE_i, ↓binE_shl, ↓binE_shr, ↓bi_add, ↓bi_sub, ↓bi_mul, ↓bi_quo, ↓bi_rem, ↓bi_eql, ↓bi_neq, ↓bi_lss, ↓bi_leq, ↓bi_gtr, ↓bi_geq, ↓bi_and, ↓bi_or, ↓bi_andNot, ↓bi_shl1, ↓bi_shr, ↓in_i64, ↓in_u64, ↓ldK_q, ↓sboxK_s, ↓ldK_p, ↓ldK_e, ↓faK_q, ↓faK_p, ↓faK_e, ↓iaK_l, ↓iaK_o, ↓sliK_nl, ↓sliK_l, ↓sliK_o, ↓op_move, ↓op_assign, ↓op_pick, ↓op_load, ↓op_bin, ↓op_not, ↓op_fa, ↓op_ia, ↓op_index, ↓op_extract, ↓op_iface, ↓op_func, ↓op_slice, ↓op_build, ↓op_len, ↓op_max, ↓op_append, ↓op_call, ↓op_alloc, ↓op_box, ↓op_store, ↓op_make, ↓orH_T, isD_d, isD_nl, isD_o, isD_p, isD_fp, ↓fnK_f, ↓call_H, ↓callK_H, ↓callKQ_H, ↓allT_nil, ↓allT_cons, ↓allD_nil, ↓allD_cons, ↓td_d, ↓td_nl, ↓td_o, ↓boxK_d, ↓td_p, ↓td_fp, ↓bq_nil, ↓bq_cons, ↓ret_1, ↓ret_2, ↓ret_3, ↓draw_H, ↓h_nil, ↓h_cons, ↓ldH_t, ↓ldH_n, ↓ldH_g, ↓q_call, ↓q_bi, ↓q_bs, ↓q_move, ↓q_assign, ↓q_pick, ↓q_load, ↓q_bin, ↓q_un, ↓q_fa, ↓q_ia, ↓q_index, ↓q_extract, ↓q_iface, ↓q_func, ↓q_slice, ↓q_build, ↓il_move, ↓il_assign, ↓il_pick, ↓il_load, ↓il_bin, ↓il_un, ↓il_fa, ↓il_ia, ↓il_index, ↓il_extract, ↓il_iface, ↓il_func, ↓il_slice, ↓il_build, ↓il_bs, ↓il_call, ↓il_len, ↓il_max, ↓il_append, ↓il_store, ↓il_alloc, ↓il_box, ↓il_make, ↓addBox_mk, ↓addRow_mk, ↓setBox_mk, ↓setRow_mk, ↓app_mk, ↓st_tm, ↓st_bx, ↓st_rw, ↓st_gh, ↓row_sz, ↓row_xs, kill_d, kill_j, kill_nl, kill_p, kill_fp, kill_o, kill_e, kill_junk, ↓cells_i, ↓cells_b, ↓cells_c, ↓cells_s, ↓cells_l, ↓cells_q, ↓vcells_i, ↓vcells_b, ↓vcells_c, ↓vcells_l, ↓vcells_q, ↓vcells_s, ↓vcells_j, ↓vcells_nl, ↓vcells_o, ↓vcells_p, ↓one_i, ↓one_b, ↓one_l, ↓one_q, ↓one_iface, ↓vone_d, ↓vone_nl, ↓vone_o, ↓vone_p, constV_i, constV_b, constV_n, constV_a, ↓st_p, ↓st_e, ↓ap_, ↓ap_nl, ↓ap_o, ↓src_nl, ↓src_l, ↓src_o, ↓mk_, ↓bs_, ↓op_bs, ↓bsL_t, ↓bsL_f, ↓stored_mk, ↓sl_nil, ↓sl_cons, ↓st_store_t, ↓st_store_c, ↓sT_move, ↓sT_assign, ↓sT_pick, ↓sT_load, ↓sT_bin, ↓sT_un, ↓sT_fa, ↓sT_ia, ↓sT_index, ↓sT_extract, ↓sT_iface, ↓sT_func, ↓sT_slice, ↓sT_build, ↓sT_bs, ↓sT_call, ↓sT_alloc, ↓sT_box, ↓sT_make, ↓beq_some, ↓vsz_int, ↓vsz_bool, ↓vsz_slice, ↓vsz_agg, ↓inO_1, ↓inO_2, ↓inO_3, ↓inO_4, ↓fm_nil, ↓fm_cons, ↓take_map, ↓take_all, ↓res_H, ↓resH_d, ↓resH_row, ↓hd_cons, ↓Qrow_n, ↓Qrow_r, ↓rowK_nl, ↓rowK_o, ↓Qn_n, ↓Qrd_n, ↓Qrd_r, ↓Qrd_x, ↓back_mk, ↓ty2, ↓zb2, ↓ty3, ↓zb3, ↓ty4, ↓zb4, ↓ty22, ↓sl22, ↓zb22, ↓ty24, ↓sl24, ↓zb24, ↓ty29, ↓ty40, ↓zb40, ↓fd40_0, ↓fd40_1, ↓bd40, ↓ty41, ↓zb41, ↓fd41_0, ↓fd41_1, ↓bd41, ↓ty45, ↓sl45, ↓zb45, ↓ty46, ↓sl46, ↓zb46, ↓ty69, ↓sl69, ↓zb69, ↓ty90, ↓zb90, ↓fd90_0, ↓fd90_1, ↓bd90, ↓ty91, ↓zb91, ↓fd91_0, ↓fd91_1, ↓bd91, ↓ty92, ↓zb92, ↓fd92_0, ↓fd92_1, ↓bd92, ↓ty93, ↓zb93, ↓fd93_0, ↓fd93_1, ↓bd93, ↓ty99, ↓sl99, ↓zb99, ↓ty101, ↓zb101, ↓ty102, ↓zb102, ↓ty108, ↓zb108, ↓nc108, ↓ty114, ↓zb114, ↓ar114, ↓bd114, ↓ty118, ↓zb118, ↓ar118, ↓bd118, ↓ty126, ↓ty153, ↓sl153, ↓zb153, ↓ty176, ↓zb176, ↓ty183, List.getD_cons_zero, List.getD_cons_succ, List.set_cons_zero, List.set_cons_succ, List.cons_append, List.nil_append, List.append_nil, List.map_cons, List.map_nil, List.length_cons, List.length_nil, List.length_map, List.all_cons, List.all_nil, Bool.and_true, Bool.true_and, Bool.and_self, Bool.and_false, Bool.false_and, Bool.or_true, Bool.true_or, Bool.or_false, Bool.false_or, Nat.reduceAdd, Nat.reduceSub, Nat.reduceMul, Nat.zero_add, Nat.add_zero, Int.toNat_natCast, Int.toNat_zero, Int.toNat_one, List.replicate, evK_go, reduceIte, decide_true, decide_false, Bool.not_true, Bool.not_false, Nat.reduceEqDiff, Nat.reduceLT, and_self, true_and, and_true, ne_eq, not_true_eq_false, not_false_eq_true, Nat.lt_irrefl, Option.getD_none, Option.getD_some, Nat.add_eq, Int.zero_add, List.length_replicate, List.drop_zero, List.take_succ_cons, List.drop_succ_cons, List.take_zero, List.take_nil, List.drop_nil, List.foldl_cons, List.foldl_nil, List.toList_toArray, Int.cast_ofNat_Int, Int.natCast_add, Int.ofNat_lt, Int.ofNat_le, Int.natCast_nonneg, Int.natCast_inj]
                    refine OrH.l ⟨DrawH.of follows_mixed (by kernel_rfl), ?_⟩
                    rw [relF, if_neg (by omega)] at hBs
                    refine ⟨by omega, j + 1, by omega, by omega, ?_⟩
                    rw [hBs]
                    refine Wkn.fx ?_ (fun p hp => hp)
                    simp (implicitDefEqProofs := false) (dsimp := false) only [slots, tmLe_nil, tmLe_j, tmLe_s, List.set_cons_zero, List.set_cons_succ, Nat.reduceAdd, Nat.reduceSub, Nat.reduceMul, List.replicate, evK_go, reduceIte, Nat.reduceEqDiff, Nat.reduceLT, List.foldl_cons, List.foldl_nil, Int.cast_ofNat_Int, Int.natCast_add]
                  have d2 := decide_eq_true c2
                  by_cases c3 : F i j < 0
                  · have d3 := decide_eq_true c3
                    simp (implicitDefEqProofs := false) (dsimp := false) (maxSteps := 3000000) only [d1, d2, d3, ↓iaK_c, ↓hFi, ↓hFk, hgi, hgk, hiv, hkv, hva, hia, hka, hja, hlr, hri, hrk, hrj, ffRow, eval_nilI, ↓er_neq0, ↓er_eql0, ↓er_neq, ↓er_eql, ↓bo_eql, ↓bo_neq, lnD_cells, lnN_cells, er_one, er_flat, rflat_U, rflat_nD, rflat_I, rflat_nil, ↓cdK_true, ↓cdK_false, ↓cdK_not, ↓gdK_tt, ↓gdK_tf, ↓gdK_ft, ↓gdK_ff, ↓gdK_junk, ↓gdK_t, ↓gdK_f, ↓gval_mk, ↓gvL_zero, ↓gvL_succ, ↓optK_some, ↓rwK_mk_, ↓atK_H, ↓atH_map, ↓atH_appmap, ↓nthK_H, ↓nthH_zero, ↓nthH_succ, ↓aw_cond, ↓aw_seq, ↓aw_block, ↓aw_exit, ↓aw_ret, ↓aw_skip, ↓aw_loop, ↓aw_rng, ↓aw_reg, ↓aw_draw, ↓Qseq_n, ↓Qseq_x, ↓Qseq_r, ↓Qblk_n, ↓Qblk_r, ↓Qblk_x, ↓Qblk_here, ↓Qret_r, ↓Qret_n, ↓ops_nil, ↓ops_cons, ↓ops_guard, ↓eval_tmp, ↓eval_int, ↓eval_bool, ↓eval_nil, ↓eval_agg, ↓eval_func, ↓put_some, ↓put_none, ↓bK_b, ↓iK_i, ↓dK_d, ↓dK_nl, ↓lenK_nl, ↓lenK_l, ↓lenK_o, ↓ev_move, ↓ev_assign, ↓ev_pick, ↓ev_load, ↓ev_bin, ↓ev_not, ↓ev_fa, ↓ev_ia, ↓sK_s, ↓tK_t, ↓vK_c, ↓ev_index, ↓ev_extract, ↓ev_iface, ↓ev_func, ↓capsK_nil, ↓capsK_cons, ↓ev_slice, ↓optI_none, ↓optI_some, ↓ev_build, ↓ev_len, ↓ev_max, ↓binE_i, ↓binE_shl, ↓binE_shr, ↓bi_add, ↓bi_sub, ↓bi_mul, ↓bi_quo, ↓bi_rem, ↓bi_eql, ↓bi_neq, ↓bi_lss, ↓bi_leq, ↓bi_gtr, ↓bi_geq, ↓bi_and, ↓bi_or, ↓bi_andNot, ↓bi_shl1, ↓bi_shr, ↓in_i64, ↓in_u64, ↓ldK_q, ↓sboxK_s, ↓ldK_p, ↓ldK_e, ↓faK_q, ↓faK_p, ↓faK_e, ↓iaK_l, ↓iaK_o, ↓sliK_nl, ↓sliK_l, ↓sliK_o, ↓op_move, ↓op_assign, ↓op_pick, ↓op_load, ↓op_bin, ↓op_not, ↓op_fa, ↓op_ia, ↓op_index, ↓op_extract, ↓op_iface, ↓op_func, ↓op_slice, ↓op_build, ↓op_len, ↓op_max, ↓op_append, ↓op_call, ↓op_alloc, ↓op_box, ↓op_store, ↓op_make, ↓orH_T, isD_d, isD_nl, isD_o, isD_p, isD_fp, ↓fnK_f, ↓call_H, ↓callK_H, ↓callKQ_H, ↓allT_nil, ↓allT_cons, ↓allD_nil, ↓allD_cons, ↓td_d, ↓td_nl, ↓td_o, ↓boxK_d, ↓td_p, ↓td_fp, ↓bq_nil, ↓bq_cons, ↓ret_1, ↓ret_2, ↓ret_3, ↓draw_H, ↓h_nil, ↓h_cons, ↓ldH_t, ↓ldH_n, ↓ldH_g, ↓q_call, ↓q_bi, ↓q_bs, ↓q_move, ↓q_assign, ↓q_pick, ↓q_load, ↓q_bin, ↓q_un, ↓q_fa, ↓q_ia, ↓q_index, ↓q_extract, ↓q_iface, ↓q_func, ↓q_slice, ↓q_build, ↓il_move, ↓il_assign, ↓il_pick, ↓il_load, ↓il_bin, ↓il_un, ↓il_fa, ↓il_ia, ↓il_index, ↓il_extract, ↓il_iface, ↓il_func, ↓il_slice, ↓il_build, ↓il_bs, ↓il_call, ↓il_len, ↓il_max, ↓il_append, ↓il_store, ↓il_alloc, ↓il_box, ↓il_make, ↓addBox_mk, ↓addRow_mk, ↓setBox_mk, ↓setRow_mk, ↓app_mk, ↓st_tm, ↓st_bx, ↓st_rw, ↓st_gh, ↓row_sz, ↓row_xs, kill_d, kill_j, kill_nl, kill_p, kill_fp, kill_o, kill_e, kill_junk, ↓cells_i, ↓cells_b, ↓cells_c, ↓cells_s, ↓cells_l, ↓cells_q, ↓vcells_i, ↓vcells_b, ↓vcells_c, ↓vcells_l, ↓vcells_q, ↓vcells_s, ↓vcells_j, ↓vcells_nl, ↓vcells_o, ↓vcells_p, ↓one_i, ↓one_b, ↓one_l, ↓one_q, ↓one_iface, ↓vone_d, ↓vone_nl, ↓vone_o, ↓vone_p, constV_i, constV_b, constV_n, constV_a, ↓st_p, ↓st_e, ↓ap_, ↓ap_nl, ↓ap_o, ↓src_nl, ↓src_l, ↓src_o, ↓mk_, ↓bs_, ↓op_bs, ↓bsL_t, ↓bsL_f, ↓stored_mk, ↓sl_nil, ↓sl_cons, ↓st_store_t, ↓st_store_c, ↓sT_move, ↓sT_assign, ↓sT_pick, ↓sT_load, ↓sT_bin, ↓sT_un, ↓sT_fa, ↓sT_ia, ↓sT_index, ↓sT_extract, ↓sT_iface, ↓sT_func, ↓sT_slice, ↓sT_build, ↓sT_bs, ↓sT_call, ↓sT_alloc, ↓sT_box, ↓sT_make, ↓beq_some, ↓vsz_int, ↓vsz_bool, ↓vsz_slice, ↓vsz_agg, ↓inO_1, ↓inO_2, ↓inO_3, ↓inO_4, ↓fm_nil, ↓fm_cons, ↓take_map, ↓take_all, ↓res_H, ↓resH_d, ↓resH_row, ↓hd_cons, ↓Qrow_n, ↓Qrow_r, ↓rowK_nl, ↓rowK_o, ↓Qn_n, ↓Qrd_n, ↓Qrd_r, ↓Qrd_x, ↓back_mk, ↓ty2, ↓zb2, ↓ty3, ↓zb3, ↓ty4, ↓zb4, ↓ty22, ↓sl22, ↓zb22, ↓ty24, ↓sl24, ↓zb24, ↓ty29, ↓ty40, ↓zb40, ↓fd40_0, ↓fd40_1, ↓bd40, ↓ty41, ↓zb41, ↓fd41_0, ↓fd41_1, ↓bd41, ↓ty45, ↓sl45, ↓zb45, ↓ty46, ↓sl46, ↓zb46, ↓ty69, ↓sl69, ↓zb69, ↓ty90, ↓zb90, ↓fd90_0, ↓fd90_1, ↓bd90, ↓ty91, ↓zb91, ↓fd91_0, ↓fd91_1, ↓bd91, ↓ty92, ↓zb92, ↓fd92_0, ↓fd92_1, ↓bd92, ↓ty93, ↓zb93, ↓fd93_0, ↓fd93_1, ↓bd93, ↓ty99, ↓sl99, ↓zb99, ↓ty101, ↓zb101, ↓ty102, ↓zb102, ↓ty108, ↓zb108, ↓nc108, ↓ty114, ↓zb114, ↓ar114, ↓bd114, ↓ty118, ↓zb118, ↓ar118, ↓bd118, ↓ty126, ↓ty153, ↓sl153, ↓zb153, ↓ty176, ↓zb176, ↓ty183, List.getD_cons_zero, List.getD_cons_succ, List.set_cons_zero, List.set_cons_succ, List.cons_append, List.nil_append, List.append_nil, List.map_cons, List.map_nil, List.length_cons, List.length_nil, List.length_map, List.all_cons, List.all_nil, Bool.and_true, Bool.true_and, Bool.and_self, Bool.and_false, Bool.false_and, Bool.or_true, Bool.true_or, Bool.or_false, Bool.false_or, Nat.reduceAdd, Nat.reduceSub, Nat.reduceMul, Nat.zero_add, Nat.add_zero, Int.toNat_natCast, Int.toNat_zero, Int.toNat_one, List.replicate, evK_go, reduceIte, decide_true, decide_false, Bool.not_true, Bool.not_false, Nat.reduceEqDiff, Nat.reduceLT, and_self, true_and, and_true, ne_eq, not_true_eq_false, not_false_eq_true, Nat.lt_irrefl, Option.getD_none, Option.getD_some, Nat.add_eq, Int.zero_add, List.length_replicate, List.drop_zero, List.take_succ_cons, List.drop_succ_cons, List.take_zero, List.take_nil, List.drop_nil, List.foldl_cons, List.foldl_nil, List.toList_toArray, Int.cast_ofNat_Int, Int.natCast_add, Int.ofNat_lt, Int.ofNat_le, Int.natCast_nonneg, Int.natCast_inj]
                    refine OrH.l ⟨DrawH.of follows_mixed (by kernel_rfl), ?_⟩
                    rw [relF, if_pos (by omega)] at hBs
                    refine OrH.l ⟨DrawH.of follows_mixed (by kernel_rfl), ⟨by omega, by omega⟩, ⟨by omega, by omega⟩, j + 1, by omega, by omega, ?_⟩
                    have hset : (ffRows a a F).set i (some ⟨1, (List.map (fun b => I .i64 (F i b)) (List.range a)).set j (I .i64 (F i k + F k j))⟩) = ffRows a a (updF F i j (F i k + F k j)) := by
                      rw [show (List.map (fun b => I .i64 (F i b)) (List.range a)) = ffRow a (F i) from rfl, ffRow_set]
                      exact ffRows_set F _
                    rw [hBs, hset]
                    refine Wkn.fx ?_ (fun p hp => hp)
                    simp (implicitDefEqProofs := false) (dsimp := false) only [slots, tmLe_nil, tmLe_j, tmLe_s, List.set_cons_zero, List.set_cons_succ, Nat.reduceAdd, Nat.reduceSub, Nat.reduceMul, List.replicate, evK_go, reduceIte, Nat.reduceEqDiff, Nat.reduceLT, List.foldl_cons, List.foldl_nil, Int.cast_ofNat_Int, Int.natCast_add]
                  have d3 := decide_eq_false c3
                  by_cases c4 : F i k + F k j < F i j
                  · have d4 := decide_eq_true c4
                    simp (implicitDefEqProofs := false) (dsimp := false) (maxSteps := 3000000) only [d1, d2, d3, d4, ↓iaK_c, ↓hFi, ↓hFk, hgi, hgk, hiv, hkv, hva, hia, hka, hja, hlr, hri, hrk, hrj, ffRow, eval_nilI, ↓er_neq0, ↓er_eql0, ↓er_neq, ↓er_eql, ↓bo_eql, ↓bo_neq, lnD_cells, lnN_cells, er_one, er_flat, rflat_U, rflat_nD, rflat_I, rflat_nil, ↓cdK_true, ↓cdK_false, ↓cdK_not, ↓gdK_tt, ↓gdK_tf, ↓gdK_ft, ↓gdK_ff, ↓gdK_junk, ↓gdK_t, ↓gdK_f, ↓gval_mk, ↓gvL_zero, ↓gvL_succ, ↓optK_some, ↓rwK_mk_, ↓atK_H, ↓atH_map, ↓atH_appmap, ↓nthK_H, ↓nthH_zero, ↓nthH_succ, ↓aw_cond, ↓aw_seq, ↓aw_block, ↓aw_exit, ↓aw_ret, ↓aw_skip, ↓aw_loop, ↓aw_rng, ↓aw_reg, ↓aw_draw, ↓Qseq_n, ↓Qseq_x, ↓Qseq_r, ↓Qblk_n, ↓Qblk_r, ↓Qblk_x, ↓Qblk_here, ↓Qret_r, ↓Qret_n, ↓ops_nil, ↓ops_cons, ↓ops_guard, ↓eval_tmp, ↓eval_int, ↓eval_bool, ↓eval_nil, ↓eval_agg, ↓eval_func, ↓put_some, ↓put_none, ↓bK_b, ↓iK_i, ↓dK_d, ↓dK_nl, ↓lenK_nl, ↓lenK_l, ↓lenK_o, ↓ev_move, ↓ev_assign, ↓ev_pick, ↓ev_load, ↓ev_bin, ↓ev_not, ↓ev_fa, ↓ev_ia, ↓sK_s, ↓tK_t, ↓vK_c, ↓ev_index, ↓ev_extract, ↓ev_iface, ↓ev_func, ↓capsK_nil, ↓capsK_cons, ↓ev_slice, ↓optI_none, ↓optI_some, ↓ev_build, ↓ev_len, ↓ev_max, ↓binE_i, ↓binE_shl, ↓binE_shr, ↓bi_add, ↓bi_sub, ↓bi_mul, ↓bi_quo, ↓bi_rem, ↓bi_eql, ↓bi_neq, ↓bi_lss, ↓bi_leq, ↓bi_gtr, ↓bi_geq, ↓bi_and, ↓bi_or, ↓bi_andNot, ↓bi_shl1, ↓bi_shr, ↓in_i64, ↓in_u64, ↓ldK_q, ↓sboxK_s, ↓ldK_p, ↓ldK_e, ↓faK_q, ↓faK_p, ↓faK_e, ↓iaK_l, ↓iaK_o, ↓sliK_nl, ↓sliK_l, ↓sliK_o, ↓op_move, ↓op_assign, ↓op_pick, ↓op_load, ↓op_bin, ↓op_not, ↓op_fa, ↓op_ia, ↓op_index, ↓op_extract, ↓op_iface, ↓op_func, ↓op_slice, ↓op_build, ↓op_len, ↓op_max, ↓op_append, ↓op_call, ↓op_alloc, ↓op_box, ↓op_store, ↓op_make, ↓orH_T, isD_d, isD_nl, isD_o, isD_p, isD_fp, ↓fnK_f, ↓call_H, ↓callK_H, ↓callKQ_H, ↓allT_nil, ↓allT_cons, ↓allD_nil, ↓allD_cons, ↓td_d, ↓td_nl, ↓td_o, ↓boxK_d, ↓td_p, ↓td_fp, ↓bq_nil, ↓bq_cons, ↓ret_1, ↓ret_2, ↓ret_3, ↓draw_H, ↓h_nil, ↓h_cons, ↓ldH_t, ↓ldH_n, ↓ldH_g, ↓q_call, ↓q_bi, ↓q_bs, ↓q_move, ↓q_assign, ↓q_pick, ↓q_load, ↓q_bin, ↓q_un, ↓q_fa, ↓q_ia, ↓q_index, ↓q_extract, ↓q_iface, ↓q_func, ↓q_slice, ↓q_build, ↓il_move, ↓il_assign, ↓il_pick, ↓il_load, ↓il_bin, ↓il_un, ↓il_fa, ↓il_ia, ↓il_index, ↓il_extract, ↓il_iface, ↓il_func, ↓il_slice, ↓il_build, ↓il_bs, ↓il_call, ↓il_len, ↓il_max, ↓il_append, ↓il_store, ↓il_alloc, ↓il_box, ↓il_make, ↓addBox_mk, ↓addRow_mk, ↓setBox_mk, ↓setRow_mk, ↓app_mk, ↓st_tm, ↓st_bx, ↓st_rw, ↓st_gh, ↓row_sz, ↓row_xs, kill_d, kill_j, kill_nl, kill_p, kill_fp, kill_o, kill_e, kill_junk, ↓cells_i, ↓cells_b, ↓cells_c, ↓cells_s, ↓cells_l, ↓cells_q, ↓vcells_i, ↓vcells_b, ↓vcells_c, ↓vcells_l, ↓vcells_q, ↓vcells_s, ↓vcells_j, ↓vcells_nl, ↓vcells_o, ↓vcells_p, ↓one_i, ↓one_b, ↓one_l, ↓one_q, ↓one_iface, ↓vone_d, ↓vone_nl, ↓vone_o, ↓vone_p, constV_i, constV_b, constV_n, constV_a, ↓st_p, ↓st_e, ↓ap_, ↓ap_nl, ↓ap_o, ↓src_nl, ↓src_l, ↓src_o, ↓mk_, ↓bs_, ↓op_bs, ↓bsL_t, ↓bsL_f, ↓stored_mk, ↓sl_nil, ↓sl_cons, ↓st_store_t, ↓st_store_c, ↓sT_move, ↓sT_assign, ↓sT_pick, ↓sT_load, ↓sT_bin, ↓sT_un, ↓sT_fa, ↓sT_ia, ↓sT_index, ↓sT_extract, ↓sT_iface, ↓sT_func, ↓sT_slice, ↓sT_build, ↓sT_bs, ↓sT_call, ↓sT_alloc, ↓sT_box, ↓sT_make, ↓beq_some, ↓vsz_int, ↓vsz_bool, ↓vsz_slice, ↓vsz_agg, ↓inO_1, ↓inO_2, ↓inO_3, ↓inO_4, ↓fm_nil, ↓fm_cons, ↓take_map, ↓take_all, ↓res_H, ↓resH_d, ↓resH_row, ↓hd_cons, ↓Qrow_n, ↓Qrow_r, ↓rowK_nl, ↓rowK_o, ↓Qn_n, ↓Qrd_n, ↓Qrd_r, ↓Qrd_x, ↓back_mk, ↓ty2, ↓zb2, ↓ty3, ↓zb3, ↓ty4, ↓zb4, ↓ty22, ↓sl22, ↓zb22, ↓ty24, ↓sl24, ↓zb24, ↓ty29, ↓ty40, ↓zb40, ↓fd40_0, ↓fd40_1, ↓bd40, ↓ty41, ↓zb41, ↓fd41_0, ↓fd41_1, ↓bd41, ↓ty45, ↓sl45, ↓zb45, ↓ty46, ↓sl46, ↓zb46, ↓ty69, ↓sl69, ↓zb69, ↓ty90, ↓zb90, ↓fd90_0, ↓fd90_1, ↓bd90, ↓ty91, ↓zb91, ↓fd91_0, ↓fd91_1, ↓bd91, ↓ty92, ↓zb92, ↓fd92_0, ↓fd92_1, ↓bd92, ↓ty93, ↓zb93, ↓fd93_0, ↓fd93_1, ↓bd93, ↓ty99, ↓sl99, ↓zb99, ↓ty101, ↓zb101, ↓ty102, ↓zb102, ↓ty108, ↓zb108, ↓nc108, ↓ty114, ↓zb114, ↓ar114, ↓bd114, ↓ty118, ↓zb118, ↓ar118, ↓bd118, ↓ty126, ↓ty153, ↓sl153, ↓zb153, ↓ty176, ↓zb176, ↓ty183, List.getD_cons_zero, List.getD_cons_succ, List.set_cons_zero, List.set_cons_succ, List.cons_append, List.nil_append, List.append_nil, List.map_cons, List.map_nil, List.length_cons, List.length_nil, List.length_map, List.all_cons, List.all_nil, Bool.and_true, Bool.true_and, Bool.and_self, Bool.and_false, Bool.false_and, Bool.or_true, Bool.true_or, Bool.or_false, Bool.false_or, Nat.reduceAdd, Nat.reduceSub, Nat.reduceMul, Nat.zero_add, Nat.add_zero, Int.toNat_natCast, Int.toNat_zero, Int.toNat_one, List.replicate, evK_go, reduceIte, decide_true, decide_false, Bool.not_true, Bool.not_false, Nat.reduceEqDiff, Nat.reduceLT, and_self, true_and, and_true, ne_eq, not_true_eq_false, not_false_eq_true, Nat.lt_irrefl, Option.getD_none, Option.getD_some, Nat.add_eq, Int.zero_add, List.length_replicate, List.drop_zero, List.take_succ_cons, List.drop_succ_cons, List.take_zero, List.take_nil, List.drop_nil, List.foldl_cons, List.foldl_nil, List.toList_toArray, Int.cast_ofNat_Int, Int.natCast_add, Int.ofNat_lt, Int.ofNat_le, Int.natCast_nonneg, Int.natCast_inj]
                    refine OrH.l ⟨DrawH.of follows_mixed (by kernel_rfl), ?_⟩
                    refine ⟨by omega, ?_⟩
                    rw [relF, if_pos (by omega)] at hBs
                    refine OrH.l ⟨DrawH.of follows_mixed (by kernel_rfl), ⟨by omega, by omega⟩, ⟨by omega, by omega⟩, j + 1, by omega, by omega, ?_⟩
                    have hset : (ffRows a a F).set i (some ⟨1, (List.map (fun b => I .i64 (F i b)) (List.range a)).set j (I .i64 (F i k + F k j))⟩) = ffRows a a (updF F i j (F i k + F k j)) := by
                      rw [show (List.map (fun b => I .i64 (F i b)) (List.range a)) = ffRow a (F i) from rfl, ffRow_set]
                      exact ffRows_set F _
                    rw [hBs, hset]
                    refine Wkn.fx ?_ (fun p hp => hp)
                    simp (implicitDefEqProofs := false) (dsimp := false) only [slots, tmLe_nil, tmLe_j, tmLe_s, List.set_cons_zero, List.set_cons_succ, Nat.reduceAdd, Nat.reduceSub, Nat.reduceMul, List.replicate, evK_go, reduceIte, Nat.reduceEqDiff, Nat.reduceLT, List.foldl_cons, List.foldl_nil, Int.cast_ofNat_Int, Int.natCast_add]
                  · have d4 := decide_eq_false c4
                    simp (implicitDefEqProofs := false) (dsimp := false) (maxSteps := 3000000) only [d1, d2, d3, d4, ↓iaK_c, ↓hFi, ↓hFk, hgi, hgk, hiv, hkv, hva, hia, hka, hja, hlr, hri, hrk, hrj, ffRow, eval_nilI, ↓er_neq0, ↓er_eql0, ↓er_neq, ↓er_eql, ↓bo_eql, ↓bo_neq, lnD_cells, lnN_cells, er_one, er_flat, rflat_U, rflat_nD, rflat_I, rflat_nil, ↓cdK_true, ↓cdK_false, ↓cdK_not, ↓gdK_tt, ↓gdK_tf, ↓gdK_ft, ↓gdK_ff, ↓gdK_junk, ↓gdK_t, ↓gdK_f, ↓gval_mk, ↓gvL_zero, ↓gvL_succ, ↓optK_some, ↓rwK_mk_, ↓atK_H, ↓atH_map, ↓atH_appmap, ↓nthK_H, ↓nthH_zero, ↓nthH_succ, ↓aw_cond, ↓aw_seq, ↓aw_block, ↓aw_exit, ↓aw_ret, ↓aw_skip, ↓aw_loop, ↓aw_rng, ↓aw_reg, ↓aw_draw, ↓Qseq_n, ↓Qseq_x, ↓Qseq_r, ↓Qblk_n, ↓Qblk_r, ↓Qblk_x, ↓Qblk_here, ↓Qret_r, ↓Qret_n, ↓ops_nil, ↓ops_cons, ↓ops_guard, ↓eval_tmp, ↓eval_int, ↓eval_bool, ↓eval_nil, ↓eval_agg, ↓eval_func, ↓put_some, ↓put_none, ↓bK_b, ↓iK_i, ↓dK_d, ↓dK_nl, ↓lenK_nl, ↓lenK_l, ↓lenK_o, ↓ev_move, ↓ev_assign, ↓ev_pick, ↓ev_load, ↓ev_bin, ↓ev_not, ↓ev_fa, ↓ev_ia, ↓sK_s, ↓tK_t, ↓vK_c, ↓ev_index, ↓ev_extract, ↓ev_iface, ↓ev_func, ↓capsK_nil, ↓capsK_cons, ↓ev_slice, ↓optI_none, ↓optI_some, ↓ev_build, ↓ev_len, ↓ev_max, ↓binE_i, ↓binE_shl, ↓binE_shr, ↓bi_add, ↓bi_sub, ↓bi_mul, ↓bi_quo, ↓bi_rem, ↓bi_eql, ↓bi_neq, ↓bi_lss, ↓bi_leq, ↓bi_gtr, ↓bi_geq, ↓bi_and, ↓bi_or, ↓bi_andNot, ↓bi_shl1, ↓bi_shr, ↓in_i64, ↓in_u64, ↓ldK_q, ↓sboxK_s, ↓ldK_p, ↓ldK_e, ↓faK_q, ↓faK_p, ↓faK_e, ↓iaK_l, ↓iaK_o, ↓sliK_nl, ↓sliK_l, ↓sliK_o, ↓op_move, ↓op_assign, ↓op_pick, ↓op_load, ↓op_bin, ↓op_not, ↓op_fa, ↓op_ia, ↓op_index, ↓op_extract, ↓op_iface, ↓op_func, ↓op_slice, ↓op_build, ↓op_len, ↓op_max, ↓op_append, ↓op_call, ↓op_alloc, ↓op_box, ↓op_store, ↓op_make, ↓orH_T, isD_d, isD_nl, isD_o, isD_p, isD_fp, ↓fnK_f, ↓call_H, ↓callK_H, ↓callKQ_H, ↓allT_nil, ↓allT_cons, ↓allD_nil, ↓allD_cons, ↓td_d, ↓td_nl, ↓td_o, ↓boxK_d, ↓td_p, ↓td_fp, ↓bq_nil, ↓bq_cons, ↓ret_1, ↓ret_2, ↓ret_3, ↓draw_H, ↓h_nil, ↓h_cons, ↓ldH_t, ↓ldH_n, ↓ldH_g, ↓q_call, ↓q_bi, ↓q_bs, ↓q_move, ↓q_assign, ↓q_pick, ↓q_load, ↓q_bin, ↓q_un, ↓q_fa, ↓q_ia, ↓q_index, ↓q_extract, ↓q_iface, ↓q_func, ↓q_slice, ↓q_build, ↓il_move, ↓il_assign, ↓il_pick, ↓il_load, ↓il_bin, ↓il_un, ↓il_fa, ↓il_ia, ↓il_index, ↓il_extract, ↓il_iface, ↓il_func, ↓il_slice, ↓il_build, ↓il_bs, ↓il_call, ↓il_len, ↓il_max, ↓il_append, ↓il_store, ↓il_alloc, ↓il_box, ↓il_make, ↓addBox_mk, ↓addRow_mk, ↓setBox_mk, ↓setRow_mk, ↓app_mk, ↓st_tm, ↓st_bx, ↓st_rw, ↓st_gh, ↓row_sz, ↓row_xs, kill_d, kill_j, kill_nl, kill_p, kill_fp, kill_o, kill_e, kill_junk, ↓cells_i, ↓cells_b, ↓cells_c, ↓cells_s, ↓cells_l, ↓cells_q, ↓vcells_i, ↓vcells_b, ↓vcells_c, ↓vcells_l, ↓vcells_q, ↓vcells_s, ↓vcells_j, ↓vcells_nl, ↓vcells_o, ↓vcells_p, ↓one_i, ↓one_b, ↓one_l, ↓one_q, ↓one_iface, ↓vone_d, ↓vone_nl, ↓vone_o, ↓vone_p, constV_i, constV_b, constV_n, constV_a, ↓st_p, ↓st_e, ↓ap_, ↓ap_nl, ↓ap_o, ↓src_nl, ↓src_l, ↓src_o, ↓mk_, ↓bs_, ↓op_bs, ↓bsL_t, ↓bsL_f, ↓stored_mk, ↓sl_nil, ↓sl_cons, ↓st_store_t, ↓st_store_c, ↓sT_move, ↓sT_assign, ↓sT_pick, ↓sT_load, ↓sT_bin, ↓sT_un, ↓sT_fa, ↓sT_ia, ↓sT_index, ↓sT_extract, ↓sT_iface, ↓sT_func, ↓sT_slice, ↓sT_build, ↓sT_bs, ↓sT_call, ↓sT_alloc, ↓sT_box, ↓sT_make, ↓beq_some, ↓vsz_int, ↓vsz_bool, ↓vsz_slice, ↓vsz_agg, ↓inO_1, ↓inO_2, ↓inO_3, ↓inO_4, ↓fm_nil, ↓fm_cons, ↓take_map, ↓take_all, ↓res_H, ↓resH_d, ↓resH_row, ↓hd_cons, ↓Qrow_n, ↓Qrow_r, ↓rowK_nl, ↓rowK_o, ↓Qn_n, ↓Qrd_n, ↓Qrd_r, ↓Qrd_x, ↓back_mk, ↓ty2, ↓zb2, ↓ty3, ↓zb3, ↓ty4, ↓zb4, ↓ty22, ↓sl22, ↓zb22, ↓ty24, ↓sl24, ↓zb24, ↓ty29, ↓ty40, ↓zb40, ↓fd40_0, ↓fd40_1, ↓bd40, ↓ty41, ↓zb41, ↓fd41_0, ↓fd41_1, ↓bd41, ↓ty45, ↓sl45, ↓zb45, ↓ty46, ↓sl46, ↓zb46, ↓ty69, ↓sl69, ↓zb69, ↓ty90, ↓zb90, ↓fd90_0, ↓fd90_1, ↓bd90, ↓ty91, ↓zb91, ↓fd91_0, ↓fd91_1, ↓bd91, ↓ty92, ↓zb92, ↓fd92_0, ↓fd92_1, ↓bd92, ↓ty93, ↓zb93, ↓fd93_0, ↓fd93_1, ↓bd93, ↓ty99, ↓sl99, ↓zb99, ↓ty101, ↓zb101, ↓ty102, ↓zb102, ↓ty108, ↓zb108, ↓nc108, ↓ty114, ↓zb114, ↓ar114, ↓bd114, ↓ty118, ↓zb118, ↓ar118, ↓bd118, ↓ty126, ↓ty153, ↓sl153, ↓zb153, ↓ty176, ↓zb176, ↓ty183, List.getD_cons_zero, List.getD_cons_succ, List.set_cons_zero, List.set_cons_succ, List.cons_append, List.nil_append, List.append_nil, List.map_cons, List.map_nil, List.length_cons, List.length_nil, List.length_map, List.all_cons, List.all_nil, Bool.and_true, Bool.true_and, Bool.and_self, Bool.and_false, Bool.false_and, Bool.or_true, Bool.true_or, Bool.or_false, Bool.false_or, Nat.reduceAdd, Nat.reduceSub, Nat.reduceMul, Nat.zero_add, Nat.add_zero, Int.toNat_natCast, Int.toNat_zero, Int.toNat_one, List.replicate, evK_go, reduceIte, decide_true, decide_false, Bool.not_true, Bool.not_false, Nat.reduceEqDiff, Nat.reduceLT, and_self, true_and, and_true, ne_eq, not_true_eq_false, not_false_eq_true, Nat.lt_irrefl, Option.getD_none, Option.getD_some, Nat.add_eq, Int.zero_add, List.length_replicate, List.drop_zero, List.take_succ_cons, List.drop_succ_cons, List.take_zero, List.take_nil, List.drop_nil, List.foldl_cons, List.foldl_nil, List.toList_toArray, Int.cast_ofNat_Int, Int.natCast_add, Int.ofNat_lt, Int.ofNat_le, Int.natCast_nonneg, Int.natCast_inj]
                    refine OrH.l ⟨DrawH.of follows_mixed (by kernel_rfl), ?_⟩
                    rw [relF, if_neg (by omega)] at hBs
                    refine ⟨by omega, ?_⟩
                    refine ⟨by omega, j + 1, by omega, by omega, ?_⟩
                    rw [hBs]
                    refine Wkn.fx ?_ (fun p hp => hp)
                    simp (implicitDefEqProofs := false) (dsimp := false) only [slots, tmLe_nil, tmLe_j, tmLe_s, List.set_cons_zero, List.set_cons_succ, Nat.reduceAdd, Nat.reduceSub, Nat.reduceMul, List.replicate, evK_go, reduceIte, Nat.reduceEqDiff, Nat.reduceLT, List.foldl_cons, List.foldl_nil, Int.cast_ofNat_Int, Int.natCast_add]
                · obtain rfl : j = a := by omega
                  simp (implicitDefEqProofs := false) (dsimp := false) only [↓aw_exit, ↓aw_reg, ↓Qseq_n, ↓Qseq_x, ↓Qblk_n, ↓Qblk_x, ↓ops_nil, ↓ops_cons, ↓eval_tmp, ↓eval_int, ↓put_some, ↓binE_i, ↓bi_add, ↓in_i64, ↓op_move, ↓op_assign, ↓op_bin, List.getD_cons_zero, List.getD_cons_succ, List.set_cons_zero, List.set_cons_succ, Bool.true_and, Nat.reduceAdd, Nat.reduceSub, Nat.reduceMul, evK_go, reduceIte, decide_false, Nat.reduceEqDiff, Nat.reduceLT, true_and, Nat.lt_irrefl]
                  refine ⟨by omega, i + 1, by omega, by omega, ?_⟩
                  rw [hAs]
                  refine Wkn.fx ?_ (fun p hp => hp)
                  simp (implicitDefEqProofs := false) (dsimp := false) only [slots, tmLe_nil, tmLe_j, tmLe_s, List.set_cons_zero, List.set_cons_succ, Nat.reduceAdd, Nat.reduceSub, Nat.reduceMul, List.replicate, evK_go, reduceIte, Nat.reduceEqDiff, Nat.reduceLT, List.foldl_cons, List.foldl_nil, Int.cast_ofNat_Int, Int.natCast_add]
            · obtain rfl : i = a := by omega
              simp (implicitDefEqProofs := false) (dsimp := false) only [↓aw_exit, ↓aw_reg, ↓Qseq_n, ↓Qseq_x, ↓Qblk_n, ↓Qblk_x, ↓ops_nil, ↓ops_cons, ↓eval_tmp, ↓eval_int, ↓put_some, ↓binE_i, ↓bi_add, ↓in_i64, ↓op_move, ↓op_assign, ↓op_bin, List.getD_cons_zero, List.getD_cons_succ, List.set_cons_zero, List.set_cons_succ, Bool.true_and, Nat.reduceAdd, Nat.reduceSub, Nat.reduceMul, evK_go, reduceIte, decide_false, Nat.reduceEqDiff, Nat.reduceLT, true_and, Nat.lt_irrefl]
              refine ⟨by omega, k + 1, by omega, by omega, ?_⟩
              rw [hKs]
              refine Wkn.fx ?_ (fun p hp => hp)
              simp (implicitDefEqProofs := false) (dsimp := false) only [slots, tmLe_nil, tmLe_j, tmLe_s, List.set_cons_zero, List.set_cons_succ, Nat.reduceAdd, Nat.reduceSub, Nat.reduceMul, List.replicate, evK_go, reduceIte, Nat.reduceEqDiff, Nat.reduceLT, List.foldl_cons, List.foldl_nil, Int.cast_ofNat_Int, Int.natCast_add]
        · obtain rfl : k = a := by omega
          simp (implicitDefEqProofs := false) (dsimp := false) only [↓aw_exit, ↓Qseq_x, Bool.true_and, Nat.reduceAdd, Nat.reduceSub, Nat.reduceMul, evK_go, reduceIte, decide_false, Nat.reduceEqDiff, Nat.reduceLT, true_and, Nat.lt_irrefl]
          rw [QX_x]
          refine ⟨(), ?_⟩
          refine Wkn.nest (rw := some ⟨1, vas.map .c⟩ :: ffRows k k (farK k F0 k)) (fx := fxL k vas) 9 0 (vas := vas) (Ds := (List.range k).map fun b => .l (ffRow k (farK k F0 k b))) ?_ (by rfl) (by simp [hva]) (fun b va hb => ?_) ?_ ?_
          · rw [hva]; rfl
          · have hbl : b < vas.length := (List.getElem?_eq_some_iff.1 hb).1
            refine ⟨b + 1, ffRow k (farK k F0 k b), ?_, ?_, ?_⟩
            · rw [ffRow_len]
              have := fxL_mem (n := k) hbl
              rwa [show vas.getD b default = va by rw [List.getD_eq_getElem?_getD, hb]; rfl] at this
            · rw [List.getD_cons_succ]; exact ffRows_get _ (by omega)
            · simp [show b < k by omega]
          · rfl
          · intro q x hq
            have hq : ((List.replicate 157 V.j).set 9 (.d (.l ((List.range k).map fun b => .l (ffRow k (farK k F0 k b))))))[q]? = some x := hq
            rw [List.getElem?_set] at hq
            by_cases e : 9 = q
            · subst e
              rw [if_pos rfl, if_pos (by simp)] at hq
              cases hq
              exact .inr (.inl ⟨rfl, rfl⟩)
            · rw [if_neg e] at hq
              exact .inl (List.eq_of_mem_replicate (List.mem_of_getElem? hq))
      · rintro ⟨⟩ _
        simp (implicitDefEqProofs := false) (dsimp := false) only [slots, ↓aw_seq, ↓aw_ret, ↓aw_reg, ↓Qseq_n, ↓Qseq_x, ↓Qblk_x, ↓Qret_r, ↓ops_nil, ↓ops_cons, ↓eval_tmp, ↓put_some, ↓op_move, ↓op_assign, ↓td_d, ↓ret_1, List.getD_cons_zero, List.getD_cons_succ, List.set_cons_zero, List.set_cons_succ, Nat.reduceAdd, Nat.reduceSub, Nat.reduceMul, List.replicate, evK_go, reduceIte, Nat.reduceEqDiff, Nat.reduceLT, List.foldl_cons, List.foldl_nil]
        skip
theorem rfar_call (n : Nat) (L : List (Int × Int)) (either : Bool) (over : Int) (pure : Bool) (σ : St) (dst : Option Tmp) (K : St → Prop) : CallH Tryd.prog 87 [I .i64 (n : Int), .l (L.map lnD), Bo either, I .i64 over] pure σ dst (.mk : Hid K) = OrH ((n ≤ 40 ∧ L.length < 2 ^ 62) ∧ (pure || D.flat (.l ((List.range n).map fun a => .l (ffRow n (ffR n L either over a))))) = true ∧ evK (σ.put dst (.d (.l ((List.range n).map fun a => .l (ffRow n (ffR n L either over a)))))) (.mk : Hid K)) (.mk : Hid (CallH Tryd.prog 87 [I .i64 (n : Int), .l (L.map lnD), Bo either, I .i64 over] pure σ dst (.mk : Hid K))) := CallH.eq (rfar_spec n L either over) pure σ dst K
end Go.Proofs

namespace Go.Proofs
open Go.Aw
set_option linter.unusedSimpArgs false
set_option maxRecDepth 10000
def comR (n : Nat) (l : List (Int × Int)) (a b : Nat) : Bool := (List.range n).any fun k => decide (((a : Int), (k : Int)) ∈ l) && decide (0 ≤ ffR n l false (-1) k b)
theorem comR_iff {n : Nat} {l : List (Int × Int)} {L : List (Nat × Nat)} (hl : ∀ a b : Nat, (((a : Int), (b : Int)) ∈ l ↔ (a, b) ∈ L)) (hg : Good n L) {i j : Nat} (hj : j < n) : comR n l i j = true ↔ Path1 L i j := comes_iff hl hg hj
end Go.Proofs

namespace Go.Proofs
open Go.Aw
set_option linter.unusedSimpArgs false
set_option maxRecDepth 10000
/-- The deepest so far of where lines to a point come from. -/
def MostK (d : List Nat) (l : List (Nat × Nat)) (i : Nat) (m : Int) : Prop := (∀ p ∈ l, p.2 = i → (d.getD p.1 default : Int) ≤ m) ∧ (m = -1 ∨ ∃ p ∈ l, p.2 = i ∧ m = (d.getD p.1 default : Nat))
theorem MostK.next {d : List Nat} {l : List (Nat × Nat)} {i : Nat} {m : Int} (h : MostK d l i m) (p : Nat × Nat) : MostK d (l ++ [p]) i (if p.2 = i ∧ m < (d.getD p.1 default : Nat) then ((d.getD p.1 default : Nat) : Int) else m) := by
  obtain ⟨h1, h2⟩ := h
  split
  · rename_i hp
    refine ⟨fun q hq hi => ?_, .inr ⟨p, by simp, hp.1, rfl⟩⟩
    rcases List.mem_append.1 hq with hq | hq
    · have := h1 q hq hi; omega
    · rw [List.mem_singleton.1 hq]; exact Int.le_refl _
  · rename_i hp
    refine ⟨fun q hq hi => ?_, h2.imp id fun ⟨q, hq, h3⟩ => ⟨q, by simp [hq], h3⟩⟩
    rcases List.mem_append.1 hq with hq | hq
    · exact h1 q hq hi
    · rw [List.mem_singleton.1 hq] at hi ⊢
      by_cases hm : m < (d.getD p.1 default : Nat)
      · exact absurd ⟨hi, hm⟩ hp
      · omega
theorem MostK.done {d : List Nat} {l : List (Nat × Nat)} {i : Nat} {m : Int} (h : MostK d l i m) (hd : IsDeep l fun j => d.getD j default) : (d.getD i default : Int) = m + 1 := by
  obtain ⟨h1, h2⟩ := h
  obtain ⟨g1, g2⟩ := hd
  rcases h2 with rfl | ⟨p, hp, rfl, rfl⟩
  · rcases g2 i with h3 | ⟨a, ha, _⟩
    · simp only at h3; omega
    · have := h1 _ ha rfl
      simp only at this; omega
  · have h3 := g1 p.1 p.2 hp
    rcases g2 p.2 with h4 | ⟨a, ha, h5⟩
    · simp only at h3 h4; omega
    · have := h1 _ ha rfl
      simp only at this h3 h5; omega
end Go.Proofs
