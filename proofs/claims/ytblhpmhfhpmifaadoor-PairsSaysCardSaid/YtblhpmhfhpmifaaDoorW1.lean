/- Part W 1 of what the proof of PairsSays stands on: what the functions of the program compute. -/
import Derived.Test.YtblhpmhfhpmifaaDoorM1
import Derived.Test.YtblhpmhfhpmifaaDoorProg
import Derived.KernelRfl
import Derived.RangeFuncKeeps
import Derived.RangeFuncLeaves
import Derived.Shelf.Abstract
import Derived.WalkKit
import Derived.OwnWalkIn
import Derived.TacticsInMore
import Derived.LoopNIn
import Derived.LoopIn
import Derived.Test.YtblhpmhfhpmifaaDoorRows
import Derived.ProofKit
import Derived.LaidLaws
import Derived.LaidHandle
import Derived.Stop.Joined
import Derived.SevenTiedAt
import Derived.RowKitTokens
import Derived.JoinedOf
import Derived.JoinedCond
import Derived.SizedLaws
import Derived.ReadAgain
import Derived.Deep.SlicePairs
import Derived.Deep.Matrix
import Derived.Lib.SmallJoins
import Derived.ChangeSlices
set_option linter.unusedVariables false
set_option linter.unusedSimpArgs false
namespace Go.Proofs
open Go.Aw
theorem ty2 (k : Bool → Nat → Prop) : tyK Tryd.prog 2 k = k false 1 := tyK_eq (by kernel_rfl) k
theorem zb2 (k : Value → Nat → Prop) : zbK Tryd.prog 2 k = k (.int .i64 0) 8 := zbK_eq (by kernel_rfl) k
theorem ty3 (k : Bool → Nat → Prop) : tyK Tryd.prog 3 k = k false 1 := tyK_eq (by kernel_rfl) k
theorem zb3 (k : Value → Nat → Prop) : zbK Tryd.prog 3 k = k (.int .i64 0) 8 := zbK_eq (by kernel_rfl) k
theorem ty4 (k : Bool → Nat → Prop) : tyK Tryd.prog 4 k = k false 1 := tyK_eq (by kernel_rfl) k
theorem zb4 (k : Value → Nat → Prop) : zbK Tryd.prog 4 k = k (.bool false) 1 := zbK_eq (by kernel_rfl) k
theorem ty22 (k : Bool → Nat → Prop) : tyK Tryd.prog 22 k = k false 1 := tyK_eq (by kernel_rfl) k
theorem sl22 (k : TypeId → Prop) : slK Tryd.prog 22 k = k 41 := slK_eq (by kernel_rfl) k
theorem zb22 (k : Value → Nat → Prop) : zbK Tryd.prog 22 k = k (.slice none 0 0) 24 := zbK_eq (by kernel_rfl) k
theorem ty24 (k : Bool → Nat → Prop) : tyK Tryd.prog 24 k = k false 1 := tyK_eq (by kernel_rfl) k
theorem sl24 (k : TypeId → Prop) : slK Tryd.prog 24 k = k 3 := slK_eq (by kernel_rfl) k
theorem zb24 (k : Value → Nat → Prop) : zbK Tryd.prog 24 k = k (.slice none 0 0) 24 := zbK_eq (by kernel_rfl) k
theorem ty29 (k : Bool → Nat → Prop) : tyK Tryd.prog 29 k = k false 1 := tyK_eq (by kernel_rfl) k
theorem ty40 (k : Bool → Nat → Prop) : tyK Tryd.prog 40 k = k true 2 := tyK_eq (by kernel_rfl) k
theorem zb40 (k : Value → Nat → Prop) : zbK Tryd.prog 40 k = k (.agg #[.int .i64 0, .int .i64 0]) 16 := zbK_eq (by kernel_rfl) k
theorem fd40_0 (k : Nat → Nat → Prop) : fdK Tryd.prog 40 0 k = k 0 1 := fdK_eq (by kernel_rfl) k
theorem fd40_1 (k : Nat → Nat → Prop) : fdK Tryd.prog 40 1 k = k 1 1 := fdK_eq (by kernel_rfl) k
theorem bd40 (k : Nat → Nat → Prop) : bdK Tryd.prog 40 k = k 1 1 := bdK_eq (by kernel_rfl) k
theorem ty41 (k : Bool → Nat → Prop) : tyK Tryd.prog 41 k = k true 2 := tyK_eq (by kernel_rfl) k
theorem zb41 (k : Value → Nat → Prop) : zbK Tryd.prog 41 k = k (.agg #[.int .i64 0, .int .i64 0]) 16 := zbK_eq (by kernel_rfl) k
theorem fd41_0 (k : Nat → Nat → Prop) : fdK Tryd.prog 41 0 k = k 0 1 := fdK_eq (by kernel_rfl) k
theorem fd41_1 (k : Nat → Nat → Prop) : fdK Tryd.prog 41 1 k = k 1 1 := fdK_eq (by kernel_rfl) k
theorem bd41 (k : Nat → Nat → Prop) : bdK Tryd.prog 41 k = k 1 1 := bdK_eq (by kernel_rfl) k
theorem ty45 (k : Bool → Nat → Prop) : tyK Tryd.prog 45 k = k false 1 := tyK_eq (by kernel_rfl) k
theorem sl45 (k : TypeId → Prop) : slK Tryd.prog 45 k = k 93 := slK_eq (by kernel_rfl) k
theorem zb45 (k : Value → Nat → Prop) : zbK Tryd.prog 45 k = k (.slice none 0 0) 24 := zbK_eq (by kernel_rfl) k
theorem ty46 (k : Bool → Nat → Prop) : tyK Tryd.prog 46 k = k false 1 := tyK_eq (by kernel_rfl) k
theorem sl46 (k : TypeId → Prop) : slK Tryd.prog 46 k = k 4 := slK_eq (by kernel_rfl) k
theorem zb46 (k : Value → Nat → Prop) : zbK Tryd.prog 46 k = k (.slice none 0 0) 24 := zbK_eq (by kernel_rfl) k
theorem ty69 (k : Bool → Nat → Prop) : tyK Tryd.prog 69 k = k false 1 := tyK_eq (by kernel_rfl) k
theorem sl69 (k : TypeId → Prop) : slK Tryd.prog 69 k = k 24 := slK_eq (by kernel_rfl) k
theorem zb69 (k : Value → Nat → Prop) : zbK Tryd.prog 69 k = k (.slice none 0 0) 24 := zbK_eq (by kernel_rfl) k
theorem ty90 (k : Bool → Nat → Prop) : tyK Tryd.prog 90 k = k true 2 := tyK_eq (by kernel_rfl) k
theorem zb90 (k : Value → Nat → Prop) : zbK Tryd.prog 90 k = k (.agg #[.int .i64 0, .bool false]) 16 := zbK_eq (by kernel_rfl) k
theorem fd90_0 (k : Nat → Nat → Prop) : fdK Tryd.prog 90 0 k = k 0 1 := fdK_eq (by kernel_rfl) k
theorem fd90_1 (k : Nat → Nat → Prop) : fdK Tryd.prog 90 1 k = k 1 1 := fdK_eq (by kernel_rfl) k
theorem bd90 (k : Nat → Nat → Prop) : bdK Tryd.prog 90 k = k 1 1 := bdK_eq (by kernel_rfl) k
theorem ty91 (k : Bool → Nat → Prop) : tyK Tryd.prog 91 k = k true 2 := tyK_eq (by kernel_rfl) k
theorem zb91 (k : Value → Nat → Prop) : zbK Tryd.prog 91 k = k (.agg #[.int .i64 0, .bool false]) 16 := zbK_eq (by kernel_rfl) k
theorem fd91_0 (k : Nat → Nat → Prop) : fdK Tryd.prog 91 0 k = k 0 1 := fdK_eq (by kernel_rfl) k
theorem fd91_1 (k : Nat → Nat → Prop) : fdK Tryd.prog 91 1 k = k 1 1 := fdK_eq (by kernel_rfl) k
theorem bd91 (k : Nat → Nat → Prop) : bdK Tryd.prog 91 k = k 1 1 := bdK_eq (by kernel_rfl) k
theorem ty92 (k : Bool → Nat → Prop) : tyK Tryd.prog 92 k = k true 4 := tyK_eq (by kernel_rfl) k
theorem zb92 (k : Value → Nat → Prop) : zbK Tryd.prog 92 k = k (.agg #[.int .i64 0, .bool false, .int .i64 0, .bool false]) 32 := zbK_eq (by kernel_rfl) k
theorem fd92_0 (k : Nat → Nat → Prop) : fdK Tryd.prog 92 0 k = k 0 2 := fdK_eq (by kernel_rfl) k
theorem fd92_1 (k : Nat → Nat → Prop) : fdK Tryd.prog 92 1 k = k 2 2 := fdK_eq (by kernel_rfl) k
theorem bd92 (k : Nat → Nat → Prop) : bdK Tryd.prog 92 k = k 2 2 := bdK_eq (by kernel_rfl) k
theorem ty93 (k : Bool → Nat → Prop) : tyK Tryd.prog 93 k = k true 4 := tyK_eq (by kernel_rfl) k
theorem zb93 (k : Value → Nat → Prop) : zbK Tryd.prog 93 k = k (.agg #[.int .i64 0, .bool false, .int .i64 0, .bool false]) 32 := zbK_eq (by kernel_rfl) k
theorem fd93_0 (k : Nat → Nat → Prop) : fdK Tryd.prog 93 0 k = k 0 2 := fdK_eq (by kernel_rfl) k
theorem fd93_1 (k : Nat → Nat → Prop) : fdK Tryd.prog 93 1 k = k 2 2 := fdK_eq (by kernel_rfl) k
theorem bd93 (k : Nat → Nat → Prop) : bdK Tryd.prog 93 k = k 2 2 := bdK_eq (by kernel_rfl) k
theorem ty99 (k : Bool → Nat → Prop) : tyK Tryd.prog 99 k = k false 1 := tyK_eq (by kernel_rfl) k
theorem sl99 (k : TypeId → Prop) : slK Tryd.prog 99 k = k 102 := slK_eq (by kernel_rfl) k
theorem zb99 (k : Value → Nat → Prop) : zbK Tryd.prog 99 k = k (.slice none 0 0) 24 := zbK_eq (by kernel_rfl) k
theorem ty101 (k : Bool → Nat → Prop) : tyK Tryd.prog 101 k = k false 1 := tyK_eq (by kernel_rfl) k
theorem zb101 (k : Value → Nat → Prop) : zbK Tryd.prog 101 k = k (.int .u64 0) 8 := zbK_eq (by kernel_rfl) k
theorem ty102 (k : Bool → Nat → Prop) : tyK Tryd.prog 102 k = k false 1 := tyK_eq (by kernel_rfl) k
theorem zb102 (k : Value → Nat → Prop) : zbK Tryd.prog 102 k = k (.int .u64 0) 8 := zbK_eq (by kernel_rfl) k
theorem ty108 (k : Bool → Nat → Prop) : tyK Tryd.prog 108 k = k false 1 := tyK_eq (by kernel_rfl) k
theorem zb108 (k : Value → Nat → Prop) : zbK Tryd.prog 108 k = k (.int .i64 0) 8 := zbK_eq (by kernel_rfl) k
theorem nc108 : ncI Tryd.prog 108 = true := by kernel_rfl
theorem ty114 (k : Bool → Nat → Prop) : tyK Tryd.prog 114 k = k true 2 := tyK_eq (by kernel_rfl) k
theorem zb114 (k : Value → Nat → Prop) : zbK Tryd.prog 114 k = k (.agg #[.int .i64 0, .int .i64 0]) 16 := zbK_eq (by kernel_rfl) k
theorem ar114 (k : Nat → TypeId → Prop) : arK Tryd.prog 114 k = k 2 3 := arK_eq (by kernel_rfl) k
theorem bd114 (k : Nat → Nat → Prop) : bdK Tryd.prog 114 k = k 1 1 := bdK_eq (by kernel_rfl) k
theorem ty118 (k : Bool → Nat → Prop) : tyK Tryd.prog 118 k = k true 2 := tyK_eq (by kernel_rfl) k
theorem zb118 (k : Value → Nat → Prop) : zbK Tryd.prog 118 k = k (.agg #[.slice none 0 0, .slice none 0 0]) 48 := zbK_eq (by kernel_rfl) k
theorem ar118 (k : Nat → TypeId → Prop) : arK Tryd.prog 118 k = k 2 69 := arK_eq (by kernel_rfl) k
theorem bd118 (k : Nat → Nat → Prop) : bdK Tryd.prog 118 k = k 1 1 := bdK_eq (by kernel_rfl) k
theorem ty126 (k : Bool → Nat → Prop) : tyK Tryd.prog 126 k = k false 1 := tyK_eq (by kernel_rfl) k
theorem ty153 (k : Bool → Nat → Prop) : tyK Tryd.prog 153 k = k false 1 := tyK_eq (by kernel_rfl) k
theorem sl153 (k : TypeId → Prop) : slK Tryd.prog 153 k = k 29 := slK_eq (by kernel_rfl) k
theorem zb153 (k : Value → Nat → Prop) : zbK Tryd.prog 153 k = k (.slice none 0 0) 24 := zbK_eq (by kernel_rfl) k
theorem ty176 (k : Bool → Nat → Prop) : tyK Tryd.prog 176 k = k false 1 := tyK_eq (by kernel_rfl) k
theorem zb176 (k : Value → Nat → Prop) : zbK Tryd.prog 176 k = k (.int .u16 0) 2 := zbK_eq (by kernel_rfl) k
theorem ty183 (k : Bool → Nat → Prop) : tyK Tryd.prog 183 k = k false 1 := tyK_eq (by kernel_rfl) k
theorem follows_mixed : Tryd.prog.follows .mixedOrders = true := by kernel_rfl
end Go.Proofs

namespace Go.Proofs
open Go.Aw
set_option linter.unusedSimpArgs false
set_option maxRecDepth 10000

theorem shr_and_one (s i : Nat) : (s / 2 ^ i &&& 1 = 1) ↔ s.testBit i = true := by
  rw [Nat.and_one_is_mod, Nat.testBit_eq_decide_div_mod_eq]
  simp

theorem below_spec (n : Nat) (hpre : n < 64) : FnD Tryd.prog 82 [I .i64 (n : Int)] (U (2 ^ n - 1)) := by
  refine FnD.go Tryd.func82 rfl rfl Tryd.results82 Tryd.ntmps82 ?_
  simp (implicitDefEqProofs := false) (dsimp := false) only [↓aw_seq, ↓aw_ret, ↓aw_reg, ↓Qseq_n, ↓Qret_r, ↓ops_nil, ↓ops_cons, ↓eval_tmp, ↓eval_int, ↓put_some, ↓binE_i, ↓binE_shl, ↓bi_sub, ↓bi_shl1, ↓in_u64, ↓op_move, ↓op_assign, ↓op_bin, ↓td_d, ↓ret_1, List.getD_cons_zero, List.getD_cons_succ, List.set_cons_zero, List.set_cons_succ, List.cons_append, List.nil_append, List.map_cons, List.map_nil, List.length_cons, List.length_nil, Nat.reduceAdd, Nat.reduceSub, Nat.reduceMul, Nat.zero_add, List.replicate, evK_go, reduceIte, Nat.reduceEqDiff, Nat.reduceLT, Int.zero_add]
  have hp : 2 ^ n ≤ 2 ^ 63 := Nat.pow_le_pow_right (by omega) (by omega)
  have h1 : 1 ≤ 2 ^ n := Nat.one_le_two_pow
  have e : ((2 ^ n : Nat) : Int) - 1 = ((2 ^ n - 1 : Nat) : Int) := by omega
  refine ⟨hpre, ?_⟩
  simp (implicitDefEqProofs := false) (dsimp := false) only [e, Bool.and_true, Bool.true_and, Nat.reduceAdd, Nat.reduceSub, Nat.reduceMul, evK_go, reduceIte, Nat.reduceEqDiff, Nat.reduceLT, true_and, and_true, Int.natCast_nonneg]
  omega
theorem below_call (n : Nat) (pure : Bool) (σ : St) (dst : Option Tmp) (K : St → Prop) : CallH Tryd.prog 82 [I .i64 (n : Int)] pure σ dst (.mk : Hid K) = OrH ((n < 64) ∧ (pure || D.flat (U (2 ^ n - 1))) = true ∧ evK (σ.put dst (.d (U (2 ^ n - 1)))) (.mk : Hid K)) (.mk : Hid (CallH Tryd.prog 82 [I .i64 (n : Int)] pure σ dst (.mk : Hid K))) := CallH.eq (below_spec n) pure σ dst K
theorem below_callQ (n : Nat) (pure : Bool) (C : V → Prop) : CallQ Tryd.prog 82 [I .i64 (n : Int)] pure (.mk : Hid C) = OrH ((n < 64) ∧ (pure || D.flat (U (2 ^ n - 1))) = true ∧ evK (V.d (U (2 ^ n - 1))) (.mk : Hid C)) (.mk : Hid (CallQ Tryd.prog 82 [I .i64 (n : Int)] pure (.mk : Hid C))) := CallQ.eq (below_spec n) pure C
theorem without_spec (s i : Nat) (hpre : s < 2 ^ 64 ∧ i < 64) : FnD Tryd.prog 85 [U s, I .i64 (i : Int)] (U (dif s (2 ^ i))) := by
  refine FnD.go Tryd.func85 rfl rfl Tryd.results85 Tryd.ntmps85 ?_
  simp (implicitDefEqProofs := false) (dsimp := false) only [↓aw_seq, ↓aw_ret, ↓aw_reg, ↓Qseq_n, ↓Qret_r, ↓ops_nil, ↓ops_cons, ↓eval_tmp, ↓eval_int, ↓put_some, ↓binE_i, ↓binE_shl, ↓bi_andNot, ↓bi_shl1, ↓op_move, ↓op_assign, ↓op_bin, ↓td_d, ↓ret_1, List.getD_cons_zero, List.getD_cons_succ, List.set_cons_zero, List.set_cons_succ, List.cons_append, List.nil_append, List.map_cons, List.map_nil, List.length_cons, List.length_nil, Bool.and_true, Nat.reduceAdd, Nat.reduceSub, Nat.reduceMul, Nat.zero_add, List.replicate, evK_go, reduceIte, Nat.reduceEqDiff, Nat.reduceLT, and_true, Int.zero_add]
  have hp : 2 ^ i ≤ 2 ^ 63 := Nat.pow_le_pow_right (by omega) (by omega)
  exact ⟨hpre.2, hpre.1, by omega⟩
theorem without_call (s i : Nat) (pure : Bool) (σ : St) (dst : Option Tmp) (K : St → Prop) : CallH Tryd.prog 85 [U s, I .i64 (i : Int)] pure σ dst (.mk : Hid K) = OrH ((s < 2 ^ 64 ∧ i < 64) ∧ (pure || D.flat (U (dif s (2 ^ i)))) = true ∧ evK (σ.put dst (.d (U (dif s (2 ^ i))))) (.mk : Hid K)) (.mk : Hid (CallH Tryd.prog 85 [U s, I .i64 (i : Int)] pure σ dst (.mk : Hid K))) := CallH.eq (without_spec s i) pure σ dst K
theorem without_callQ (s i : Nat) (pure : Bool) (C : V → Prop) : CallQ Tryd.prog 85 [U s, I .i64 (i : Int)] pure (.mk : Hid C) = OrH ((s < 2 ^ 64 ∧ i < 64) ∧ (pure || D.flat (U (dif s (2 ^ i)))) = true ∧ evK (V.d (U (dif s (2 ^ i)))) (.mk : Hid C)) (.mk : Hid (CallQ Tryd.prog 85 [U s, I .i64 (i : Int)] pure (.mk : Hid C))) := CallQ.eq (without_spec s i) pure C
theorem with_spec (s i : Nat) (hpre : s < 2 ^ 64 ∧ i < 64) : FnD Tryd.prog 96 [U s, I .i64 (i : Int)] (U (s ||| 2 ^ i)) := by
  refine FnD.go Tryd.func96 rfl rfl Tryd.results96 Tryd.ntmps96 ?_
  simp (implicitDefEqProofs := false) (dsimp := false) only [↓aw_seq, ↓aw_ret, ↓aw_reg, ↓Qseq_n, ↓Qret_r, ↓ops_nil, ↓ops_cons, ↓eval_tmp, ↓eval_int, ↓put_some, ↓binE_i, ↓binE_shl, ↓bi_or, ↓bi_shl1, ↓op_move, ↓op_assign, ↓op_bin, ↓td_d, ↓ret_1, List.getD_cons_zero, List.getD_cons_succ, List.set_cons_zero, List.set_cons_succ, List.cons_append, List.nil_append, List.map_cons, List.map_nil, List.length_cons, List.length_nil, Bool.and_true, Nat.reduceAdd, Nat.reduceSub, Nat.reduceMul, Nat.zero_add, List.replicate, evK_go, reduceIte, Nat.reduceEqDiff, Nat.reduceLT, and_true, Int.zero_add]
  have hp : 2 ^ i ≤ 2 ^ 63 := Nat.pow_le_pow_right (by omega) (by omega)
  exact ⟨hpre.2, hpre.1, by omega⟩
theorem with_call (s i : Nat) (pure : Bool) (σ : St) (dst : Option Tmp) (K : St → Prop) : CallH Tryd.prog 96 [U s, I .i64 (i : Int)] pure σ dst (.mk : Hid K) = OrH ((s < 2 ^ 64 ∧ i < 64) ∧ (pure || D.flat (U (s ||| 2 ^ i))) = true ∧ evK (σ.put dst (.d (U (s ||| 2 ^ i)))) (.mk : Hid K)) (.mk : Hid (CallH Tryd.prog 96 [U s, I .i64 (i : Int)] pure σ dst (.mk : Hid K))) := CallH.eq (with_spec s i) pure σ dst K
theorem with_callQ (s i : Nat) (pure : Bool) (C : V → Prop) : CallQ Tryd.prog 96 [U s, I .i64 (i : Int)] pure (.mk : Hid C) = OrH ((s < 2 ^ 64 ∧ i < 64) ∧ (pure || D.flat (U (s ||| 2 ^ i))) = true ∧ evK (V.d (U (s ||| 2 ^ i))) (.mk : Hid C)) (.mk : Hid (CallQ Tryd.prog 96 [U s, I .i64 (i : Int)] pure (.mk : Hid C))) := CallQ.eq (with_spec s i) pure C
theorem hasS_spec (s i : Nat) (hpre : s < 2 ^ 64 ∧ i ≤ 64) : FnD Tryd.prog 90 [U s, I .i64 (i : Int)] (Bo (s.testBit i)) := by
  refine FnD.go Tryd.func90 rfl rfl Tryd.results90 Tryd.ntmps90 ?_
  simp (implicitDefEqProofs := false) (dsimp := false) only [↓aw_seq, ↓aw_ret, ↓aw_reg, ↓Qseq_n, ↓Qret_r, ↓ops_nil, ↓ops_cons, ↓eval_tmp, ↓eval_int, ↓eval_bool, ↓put_some, ↓binE_i, ↓binE_shr, ↓bi_shr, ↓op_move, ↓op_assign, ↓op_bin, ↓ret_1, List.getD_cons_zero, List.getD_cons_succ, List.set_cons_zero, List.set_cons_succ, List.cons_append, List.nil_append, List.map_cons, List.map_nil, List.length_cons, List.length_nil, Bool.and_true, Bool.true_and, Nat.reduceAdd, Nat.reduceSub, Nat.reduceMul, Nat.zero_add, Int.toNat_natCast, List.replicate, evK_go, reduceIte, Nat.reduceEqDiff, Nat.reduceLT, true_and, and_true, Int.zero_add, Int.natCast_nonneg]
  have hl : s / 2 ^ i < 2 ^ 64 := Nat.lt_of_le_of_lt (Nat.div_le_self _ _) hpre.1
  have e1 : ((1 : Int)) = ((1 : Nat) : Int) := rfl
  refine ⟨by omega, ?_⟩
  rw [e1]
  simp (implicitDefEqProofs := false) (dsimp := false) only [↓binE_i, ↓bi_eql, ↓bi_and, ↓td_d, Nat.reduceAdd, Nat.reduceSub, Nat.reduceMul, evK_go, reduceIte, Nat.reduceEqDiff, Nat.reduceLT, Int.cast_ofNat_Int]
  refine ⟨⟨hl, by omega⟩, ?_⟩
  have := shr_and_one s i
  have h2 : (((s / 2 ^ i &&& 1 : Nat) : Int) = 1) ↔ s.testBit i = true := by rw [← this]; omega
  simp (implicitDefEqProofs := false) (dsimp := false) only [Bo_eq, h2, Nat.reduceAdd, Nat.reduceSub, Nat.reduceMul, evK_go, reduceIte, Nat.reduceEqDiff, Nat.reduceLT]
  cases s.testBit i <;> rfl
theorem hasS_call (s i : Nat) (pure : Bool) (σ : St) (dst : Option Tmp) (K : St → Prop) : CallH Tryd.prog 90 [U s, I .i64 (i : Int)] pure σ dst (.mk : Hid K) = OrH ((s < 2 ^ 64 ∧ i ≤ 64) ∧ (pure || D.flat (Bo (s.testBit i))) = true ∧ evK (σ.put dst (.d (Bo (s.testBit i)))) (.mk : Hid K)) (.mk : Hid (CallH Tryd.prog 90 [U s, I .i64 (i : Int)] pure σ dst (.mk : Hid K))) := CallH.eq (hasS_spec s i) pure σ dst K
theorem hasS_callQ (s i : Nat) (pure : Bool) (C : V → Prop) : CallQ Tryd.prog 90 [U s, I .i64 (i : Int)] pure (.mk : Hid C) = OrH ((s < 2 ^ 64 ∧ i ≤ 64) ∧ (pure || D.flat (Bo (s.testBit i))) = true ∧ evK (V.d (Bo (s.testBit i))) (.mk : Hid C)) (.mk : Hid (CallQ Tryd.prog 90 [U s, I .i64 (i : Int)] pure (.mk : Hid C))) := CallQ.eq (hasS_spec s i) pure C
end Go.Proofs

namespace Go.Proofs
open Go.RowKit Go.Shelf
attribute [local go_sem] Oper.semAt_some

/-- The points of a set, rising. -/
def upto (s n : Nat) : List Int := ((List.range n).filter fun i => s.testBit i).map Int.ofNat

theorem upto_succ (s n : Nat) : upto s (n + 1) = if s.testBit n then upto s n ++ [(n : Int)] else upto s n := by
  unfold upto
  rw [List.range_succ, List.filter_append]
  cases h : s.testBit n <;> simp [h]

theorem upto_pre (s : Nat) {n m : Nat} (h : n ≤ m) : upto s n <+: upto s m := by
  induction m with
  | zero => obtain rfl : n = 0 := by omega
            exact List.prefix_refl _
  | succ m ih =>
    rcases Nat.lt_or_ge n (m + 1) with h' | h'
    · refine (ih (by omega)).trans ?_
      rw [upto_succ]
      split
      · exact List.prefix_append _ _
      · exact List.prefix_refl _
    · obtain rfl : n = m + 1 := by omega
      exact List.prefix_refl _
theorem upto_end (s : Nat) {n : Nat} (hn : n ≤ 64) (h : s / 2 ^ n = 0) : upto s n = ptsI s := by
  have hb : ∀ i, n ≤ i → s.testBit i = false := fun i hi => by
    have h1 : s < 2 ^ n := by
      rcases Nat.lt_or_ge s (2 ^ n) with h' | h'
      · exact h'
      · have := Nat.div_pos h' (Nat.two_pow_pos n); omega
    exact Nat.testBit_lt_two_pow (Nat.lt_of_lt_of_le h1 (Nat.pow_le_pow_right (by omega) hi))
  have key : ∀ m, n ≤ m → upto s m = upto s n := fun m hm => by
    induction m with
    | zero => obtain rfl : n = 0 := by omega
              rfl
    | succ m ih =>
      rcases Nat.lt_or_ge n (m + 1) with h' | h'
      · rw [upto_succ, hb m (by omega)]
        simpa using ih (by omega)
      · obtain rfl : n = m + 1 := by omega
        rfl
  exact (key 64 hn).symm

theorem hasS_in (s i : Nat) (hs : s < 2 ^ 64) (hi : i ≤ 64) (w : World) (hg : Go.Aw.Gl Tryd.prog w) : CallsIn Fence.wide 0 Tryd.prog 90 #[.int .u64 (s : Int), .int .i64 (i : Int)] w fun e w' => e = .returned (.bool (s.testBit i)) ∧ Go.Aw.Stp (fun _ => False) w w' := by
  have h := (hasS_spec s i ⟨hs, hi⟩).2 w (fun _ => False) [.int .u64 (s : Int), .int .i64 (i : Int)] hg (fun _ h => h.elim) ⟨rfl, fun k d v hd hv => by
    match k, hd, hv with
    | 0, hd, hv => simp at hd hv; subst hd; subst hv; exact .c _
    | 1, hd, hv => simp at hd hv; subst hd; subst hv; exact .c _⟩
  refine CallsIn.mono h ?_
  rintro e w' ⟨r, v, rfl, rfl, hb, hv⟩
  cases hv
  exact ⟨rfl, Go.Aw.Stp.below hb rfl⟩

set_option maxRecDepth 100000 in
set_option maxHeartbeats 1000000 in
theorem each1_in (l : Nat) (ad : Addr) (s : Nat) (hs : s < 2 ^ 64) (J : List Int → World → Prop) (Jx : World → Prop)
    (hJc : ∀ pre W, J pre W → W.cell? ad = some (.int .u64 (s : Int))) (hJg : ∀ pre W, J pre W → Go.Aw.Gl Tryd.prog W) (hJs : ∀ pre W W', J pre W → Go.Aw.Stp (fun _ => False) W W' → J pre W')
    (hY : ∀ pre x W1, J pre W1 → (pre ++ [x]) <+: ptsI s → YieldAt Fence.wide 0 Tryd.prog l #[.int .i64 x] W1 fun e W' => (e = .returned (.bool true) ∧ J (pre ++ [x]) W') ∨ (e = .returned (.bool false) ∧ Jx W'))
    (W : World) (h0 : J [] W) :
    CallsIn Fence.wide 0 Tryd.prog 111 #[.func (.yield l) #[] #[], .pointer (some ad)] W fun e W' => (∃ v, e = .returned v) ∧ (J (ptsI s) W' ∨ Jx W') := by
  refine callsIn_of_wp Tryd.func111 rfl trivial ?_ rfl
  simp (implicitDefEqProofs := false) (dsimp := false) only [Tryd.ntmps111, List.size_toArray, List.length_cons, List.length_nil, Nat.reduceAdd, Nat.reduceSub, Array.replicate_succ, Array.replicate_zero, List.push_toArray, List.append_toArray, List.nil_append, List.cons_append]
  gi_wp2
  gi_loopw [3] (fun p wr => ∃ i : Nat, p = .int .i64 (i : Int) ∧ i ≤ 64 ∧ J (upto s i) wr)
    (fun p _ => match p with | .int _ n => (64 - n).toNat | _ => 0)
  case atStart =>
    exact ⟨0, rfl, by omega, h0⟩
  case round =>
    obtain ⟨i, rfl, hi, hJ⟩ := hrel
    have hc := hJc _ _ hJ
    gi_wp2
    · refine ⟨trivial, rfl, (hasS_in s i hs hi _ (hJg _ _ hJ)).mono ?_⟩
      rintro e W2 ⟨rfl, hst⟩
      have hJ2 := hJs _ _ _ hJ hst
      have hz : ((s : Int) / 2 ^ i != 0) = true := by assumption
      have hi' : i < 64 := by
        rcases Nat.lt_or_ge i 64 with h' | h'
        · exact h'
        · obtain rfl : i = 64 := by omega
          have : s / 2 ^ 64 = 0 := Nat.div_eq_of_lt hs
          have e : ((s / 2 ^ 64 : Nat) : Int) = (s : Int) / 2 ^ 64 := by simp
          rw [← e, this] at hz
          simp at hz
      have hup := upto_succ s i
      cases hb : s.testBit i with
      | false =>
        rw [hb] at hup
        gi_wp2
        refine ⟨fun f h => (by cases h), ?_⟩
        gi_wp2
        go_roundw
        case rel => exact ⟨i + 1, by simp, by omega, by rw [hup]; exact hJ2⟩
        case measure => simp; omega
      | true =>
        rw [hb, if_pos rfl] at hup
        have hpre : upto s i ++ [(i : Int)] <+: ptsI s := hup ▸ upto_pre s hi'
        obtain ⟨fn, tmps, assign, body, hy, hR⟩ := hY _ _ _ hJ2 hpre
        gi_wp2
        refine ⟨rfl, hR.mono ?_⟩
        rintro e W3 (⟨rfl, hJ3⟩ | ⟨rfl, hJx3⟩)
        · gi_wp2
          go_roundw
          case rel => exact ⟨i + 1, by simp, by omega, by rw [hup]; exact hJ3⟩
          case measure => simp; omega
        · gi_wp2
          refine bodyPost_ret (results_none rfl _ _ _) rfl ?_
          exact ⟨⟨_, rfl⟩, .inr hJx3⟩
    · go_end0
      refine ⟨⟨_, rfl⟩, .inl ?_⟩
      have h : ((s : Int) / 2 ^ i != 0) = false := by assumption
      have : s / 2 ^ i = 0 := by
        have e : ((s / 2 ^ i : Nat) : Int) = (s : Int) / 2 ^ i := by simp
        simp at h
        omega
      rw [← upto_end s hi this]
      exact hJ
end Go.Proofs

namespace Go.Proofs
open Go.Aw
set_option linter.unusedSimpArgs false
set_option maxRecDepth 10000
theorem each_iter (s : Nat) (hs : s < 2 ^ 64) : IterA Tryd.prog 111 [.q [U s]] (ptsI s) := by
  refine ⟨fun args w => enters_of Tryd.func111 rfl rfl args w, fun w N us hul hur l J Jx W hJg hJN hJs _ hY h0 => ?_⟩
  obtain ⟨v, rfl⟩ : ∃ v, us = #[v] := Array.size_eq_one_iff.1 hul
  have hv := hur 0 _ v rfl rfl
  obtain ⟨ad, u, rfl, hN, hc, hd⟩ := hv.q_inv
  have h1 := hc 0 _ rfl
  have h2 := hd 0 _ rfl
  rw [show ad.add 0 = ad by simp [Addr.add]] at h1
  have h3 : u 0 = .int .u64 (s : Int) := by
    generalize u 0 = z at h2
    cases h2
    rfl
  rw [h3] at h1
  exact each1_in l ad s hs J Jx (fun pre W hJ => (World.cell?_of_block (hJN pre W hJ _ hN)).trans h1) hJg hJs hY W h0

theorem each_spec (s : Nat) : FnD Tryd.prog 83 [U s] (.f (.func 111) [.q [U s]]) := by
  refine FnD.go Tryd.func83 rfl rfl Tryd.results83 Tryd.ntmps83 ?_
  simp (implicitDefEqProofs := false) (dsimp := false) only [↓aw_seq, ↓aw_ret, ↓aw_reg, ↓Qseq_n, ↓Qret_r, ↓ops_nil, ↓ops_cons, ↓eval_tmp, ↓put_some, ↓capsK_nil, ↓capsK_cons, ↓op_assign, ↓op_func, ↓op_box, ↓boxK_d, ↓td_fp, ↓bq_nil, ↓bq_cons, ↓ret_1, ↓addBox_mk, ↓st_bx, ↓cells_c, ↓vcells_c, ↓one_i, ↓vone_d, List.getD_cons_zero, List.getD_cons_succ, List.set_cons_zero, List.set_cons_succ, List.cons_append, List.nil_append, List.map_cons, List.map_nil, List.length_cons, List.length_nil, List.all_cons, List.all_nil, Bool.and_self, Nat.reduceAdd, Nat.reduceSub, Nat.reduceMul, Nat.zero_add, List.replicate, evK_go, reduceIte, Nat.reduceEqDiff, Nat.reduceLT, and_self, Int.zero_add]
theorem each_call (s : Nat) (pure : Bool) (σ : St) (dst : Option Tmp) (K : St → Prop) : CallH Tryd.prog 83 [U s] pure σ dst (.mk : Hid K) = OrH ((pure || D.flat (.f (.func 111) [.q [U s]])) = true ∧ evK (σ.put dst (.d (.f (.func 111) [.q [U s]]))) (.mk : Hid K)) (.mk : Hid (CallH Tryd.prog 83 [U s] pure σ dst (.mk : Hid K))) := CallH.eq0 (each_spec s) pure σ dst K
theorem each_callQ (s : Nat) (pure : Bool) (C : V → Prop) : CallQ Tryd.prog 83 [U s] pure (.mk : Hid C) = OrH ((pure || D.flat (.f (.func 111) [.q [U s]])) = true ∧ evK (V.d (.f (.func 111) [.q [U s]])) (.mk : Hid C)) (.mk : Hid (CallQ Tryd.prog 83 [U s] pure (.mk : Hid C))) := CallQ.eq0 (each_spec s) pure C
theorem len_spec (s : Nat) (hpre : s < 2 ^ 64) : FnD Tryd.prog 103 [U s] (I .i64 ((pts s).length : Nat)) := by
  refine FnD.go Tryd.func103 rfl rfl Tryd.results103 Tryd.ntmps103 ?_
  simp (implicitDefEqProofs := false) (dsimp := false) only [↓aw_seq, ↓aw_reg, ↓Qseq_n, ↓ops_nil, ↓ops_cons, ↓eval_tmp, ↓eval_int, ↓eval_func, ↓put_some, ↓put_none, ↓op_move, ↓op_assign, ↓op_call, ↓op_alloc, ↓op_store, isD_d, ↓fnK_f, ↓call_H, ↓callK_H, ↓allT_nil, ↓allT_cons, ↓td_d, ↓addBox_mk, ↓setBox_mk, ↓st_bx, ↓vcells_c, ↓one_i, ↓vone_d, constV_i, ↓st_p, ↓ty3, ↓zb3, List.getD_cons_zero, List.getD_cons_succ, List.set_cons_zero, List.set_cons_succ, List.cons_append, List.nil_append, List.append_nil, List.map_cons, List.map_nil, List.length_cons, List.length_nil, List.all_cons, List.all_nil, Bool.true_and, Bool.and_self, Nat.reduceAdd, Nat.reduceSub, Nat.reduceMul, Nat.zero_add, List.replicate, evK_go, reduceIte, Nat.reduceEqDiff, Nat.reduceLT, and_self, true_and, Int.zero_add]
  simp (implicitDefEqProofs := false) (dsimp := false) only [each_call, ↓aw_block, ↓aw_rng, ↓Qseq_n, ↓ops_nil, ↓put_some, List.set_cons_zero, List.set_cons_succ, Bool.true_and, Bool.true_or, Nat.reduceAdd, Nat.reduceSub, Nat.reduceMul, evK_go, reduceIte, Nat.reduceEqDiff, Nat.reduceLT, true_and]
  refine OrH.l (OrH.l ?_)
  refine rangeW (slots 10 [(3, .p 0 0), (5, .d (.f (.func 111) [.q [U s]]))]) (fun k : Nat => [.d (I .i64 k)]) (fun _ => []) (fun pre k => k = pre.length) 0 (by simp [slots]) (each_iter s hpre) ?_ rfl ?_ ?_ ?_
  · simp (implicitDefEqProofs := false) (dsimp := false) only [slots, ↓eval_tmp, List.getD_cons_zero, List.getD_cons_succ, List.set_cons_zero, List.set_cons_succ, Nat.reduceAdd, Nat.reduceSub, Nat.reduceMul, List.replicate, evK_go, reduceIte, Nat.reduceEqDiff, Nat.reduceLT, List.foldl_cons, List.foldl_nil]
  · refine Wkn.of [0] [] ?_
    simp (implicitDefEqProofs := false) (dsimp := false) only [↓vcells_c, List.getD_cons_zero, List.set_cons_zero, List.set_cons_succ, List.length_cons, List.length_nil, Bool.and_self, Nat.reduceAdd, Nat.reduceSub, Nat.reduceMul, Nat.zero_add, List.replicate, evK_go, reduceIte, Nat.reduceEqDiff, Nat.reduceLT, and_self, Int.zero_add, List.foldl_cons, List.foldl_nil, Int.cast_ofNat_Int, slots, wkL_nil, wkL_cons, wkB_nil, wkB_cons, wkR_nil, wkV_j, wkV_d, wkV_p, frz_d, pK_z, reduceCtorEq]
  · rintro pre x k hpx rfl
    have hl := hpx.length_le
    simp (implicitDefEqProofs := false) (dsimp := false) only [ptsI, List.length_append, List.length_map, List.length_cons, List.length_nil] at hl
    have h64 : (pts s).length ≤ 64 := by
      have := List.length_filter_le (fun i => s.testBit i) (List.range 64)
      simpa [pts] using this
    simp (implicitDefEqProofs := false) (dsimp := false) only [slots, ↓nthK_H, ↓nthH_zero, ↓aw_block, ↓aw_skip, ↓aw_reg, ↓Qblk_n, ↓ops_nil, ↓ops_cons, ↓eval_tmp, ↓eval_int, ↓put_some, ↓put_none, ↓binE_i, ↓bi_add, ↓in_i64, ↓ldK_p, ↓op_load, ↓op_bin, ↓op_store, ↓setBox_mk, ↓st_bx, ↓vcells_c, ↓one_i, ↓vone_d, ↓st_p, ↓Qn_n, ↓Qrd_n, ↓back_mk, ↓ty3, List.getD_cons_zero, List.getD_cons_succ, List.set_cons_zero, List.set_cons_succ, List.length_cons, List.length_nil, List.all_cons, List.all_nil, Bool.true_and, Bool.and_self, Nat.reduceAdd, Nat.reduceSub, Nat.reduceMul, Nat.zero_add, List.replicate, evK_go, reduceIte, Nat.reduceEqDiff, Nat.reduceLT, and_self, true_and, Int.zero_add, List.foldl_cons, List.foldl_nil]
    refine ⟨by omega, ?_⟩
    refine ⟨pre.length + 1, by simp, ?_⟩
    refine Wkn.of [0] [] ?_
    simp (implicitDefEqProofs := false) (dsimp := false) only [↓vcells_c, List.getD_cons_zero, List.length_cons, List.length_nil, Bool.and_self, Nat.reduceAdd, Nat.reduceSub, Nat.reduceMul, Nat.zero_add, evK_go, reduceIte, Nat.reduceEqDiff, Nat.reduceLT, and_self, Int.zero_add, Int.cast_ofNat_Int, Int.natCast_add, slots, wkL_nil, wkL_cons, wkB_nil, wkB_cons, wkR_nil, wkV_j, wkV_d, wkV_p, frz_d, pK_z, reduceCtorEq]
  · rintro k rfl
    simp (implicitDefEqProofs := false) (dsimp := false) only [slots, ptsI, ↓nthK_H, ↓nthH_zero, ↓aw_seq, ↓aw_ret, ↓aw_reg, ↓Qseq_n, ↓Qblk_n, ↓Qret_r, ↓ops_nil, ↓ops_cons, ↓eval_tmp, ↓put_some, ↓ldK_p, ↓op_assign, ↓op_load, ↓td_d, ↓ret_1, ↓vcells_c, ↓ty3, List.getD_cons_zero, List.getD_cons_succ, List.set_cons_zero, List.set_cons_succ, List.length_map, Nat.reduceAdd, Nat.reduceSub, Nat.reduceMul, List.replicate, evK_go, reduceIte, Nat.reduceEqDiff, Nat.reduceLT, List.foldl_cons, List.foldl_nil]
theorem len_call (s : Nat) (pure : Bool) (σ : St) (dst : Option Tmp) (K : St → Prop) : CallH Tryd.prog 103 [U s] pure σ dst (.mk : Hid K) = OrH ((s < 2 ^ 64) ∧ (pure || D.flat (I .i64 ((pts s).length : Nat))) = true ∧ evK (σ.put dst (.d (I .i64 ((pts s).length : Nat)))) (.mk : Hid K)) (.mk : Hid (CallH Tryd.prog 103 [U s] pure σ dst (.mk : Hid K))) := CallH.eq (len_spec s) pure σ dst K
theorem len_callQ (s : Nat) (pure : Bool) (C : V → Prop) : CallQ Tryd.prog 103 [U s] pure (.mk : Hid C) = OrH ((s < 2 ^ 64) ∧ (pure || D.flat (I .i64 ((pts s).length : Nat))) = true ∧ evK (V.d (I .i64 ((pts s).length : Nat))) (.mk : Hid C)) (.mk : Hid (CallQ Tryd.prog 103 [U s] pure (.mk : Hid C))) := CallQ.eq (len_spec s) pure C
end Go.Proofs

namespace Go.Proofs
open Go.Aw
set_option linter.unusedSimpArgs false
set_option maxRecDepth 10000
theorem appendSeq_spec (s : Nat) (hs : s < 2 ^ 64) : FnR Tryd.prog 116 [.c (.slice none 0 0), .f (.func 111) [.q [U s]]] 1 ((ptsI s).map (I .i64)) := by
  refine FnR.go Tryd.func116 rfl rfl Tryd.results116 Tryd.ntmps116 ?_
  simp (implicitDefEqProofs := false) (dsimp := false) only [↓aw_seq, ↓aw_block, ↓aw_rng, ↓aw_reg, ↓Qseq_n, ↓ops_nil, ↓ops_cons, ↓eval_tmp, ↓eval_nil, ↓put_some, ↓op_move, ↓op_assign, ↓op_box, ↓addBox_mk, ↓st_bx, ↓vcells_c, ↓vone_d, List.getD_cons_zero, List.getD_cons_succ, List.set_cons_zero, List.set_cons_succ, List.cons_append, List.nil_append, List.map_cons, List.map_nil, List.length_cons, List.length_nil, List.all_cons, List.all_nil, Bool.and_true, Nat.reduceAdd, Nat.reduceSub, Nat.reduceMul, Nat.zero_add, List.replicate, evK_go, reduceIte, Nat.reduceEqDiff, Nat.reduceLT, and_true, Int.zero_add]
  refine ⟨rfl, ?_⟩
  refine rangeW (slots 13 [(2, .p 0 0), (6, .d (.f (.func 111) [.q [U s]]))]) (fun l : List Int => [.o 0 0 l.length]) (fun l => [some ⟨1, l.map (I .i64)⟩]) (fun pre l => l = pre) [] (by simp [slots]) (each_iter s hs) ?_ rfl ?_ ?_ ?_
  · simp (implicitDefEqProofs := false) (dsimp := false) only [slots, ↓eval_tmp, List.getD_cons_zero, List.getD_cons_succ, List.set_cons_zero, List.set_cons_succ, Nat.reduceAdd, Nat.reduceSub, Nat.reduceMul, List.replicate, evK_go, reduceIte, Nat.reduceEqDiff, Nat.reduceLT, List.foldl_cons, List.foldl_nil]
  · refine Wkn.of [0] [none] ?_
    simp (implicitDefEqProofs := false) (dsimp := false) only [↓row_xs, ↓vcells_c, ↓vcells_o, List.getD_cons_zero, List.set_cons_zero, List.set_cons_succ, List.map_nil, List.length_cons, List.length_nil, Bool.and_self, Nat.reduceAdd, Nat.reduceSub, Nat.reduceMul, Nat.zero_add, List.replicate, evK_go, reduceIte, Nat.reduceEqDiff, Nat.reduceLT, and_self, Int.zero_add, List.foldl_cons, List.foldl_nil, slots, wkL_nil, wkL_cons, wkB_nil, wkB_cons, wkR_nil, wkR_new, wkV_j, wkV_d, nlK_c, wkV_o, wkV_p, frz_d, oK_zn, pK_z, reduceCtorEq]
  · rintro pre x l hpx rfl
    have hl := hpx.length_le
    have h64 := ptsI_len s
    simp (implicitDefEqProofs := false) (dsimp := false) only [List.length_append, List.length_cons, List.length_nil] at hl
    simp (implicitDefEqProofs := false) (dsimp := false) only [slots, ↓optK_some, ↓rwK_mk_, ↓nthK_H, ↓nthH_zero, ↓aw_block, ↓aw_reg, ↓Qblk_n, ↓ops_nil, ↓ops_cons, ↓eval_tmp, ↓put_some, ↓put_none, ↓dK_d, ↓ldK_p, ↓op_move, ↓op_assign, ↓op_load, ↓op_append, ↓op_store, ↓allD_nil, ↓allD_cons, ↓setBox_mk, ↓app_mk, ↓st_bx, ↓row_sz, ↓row_xs, kill_d, kill_j, kill_p, kill_o, ↓cells_c, ↓vcells_j, ↓vcells_o, ↓one_i, ↓vone_o, ↓st_p, ↓ap_, ↓ap_o, ↓src_l, ↓bs_, ↓op_bs, ↓bsL_f, ↓stored_mk, ↓sl_nil, ↓sl_cons, ↓st_store_t, ↓sT_move, ↓sT_load, ↓sT_bs, ↓sT_call, ↓beq_some, ↓vsz_int, ↓inO_1, ↓fm_nil, ↓fm_cons, ↓Qn_n, ↓Qrd_n, ↓back_mk, ↓ty3, ↓zb3, ↓ty24, ↓sl24, List.getD_cons_zero, List.getD_cons_succ, List.set_cons_zero, List.set_cons_succ, List.map_cons, List.map_nil, List.length_cons, List.length_nil, List.length_map, List.all_cons, List.all_nil, Bool.true_and, Bool.and_self, Bool.or_false, Nat.reduceAdd, Nat.reduceSub, Nat.reduceMul, Nat.zero_add, List.replicate, evK_go, reduceIte, decide_false, Nat.reduceEqDiff, Nat.reduceLT, and_self, true_and, Int.zero_add, List.drop_zero, List.foldl_cons, List.foldl_nil]
    refine ⟨by omega, ⟨by simp, by omega, by omega⟩, l ++ [x], rfl, ?_⟩
    refine Wkn.of [0] [some 0] ?_
    simp (implicitDefEqProofs := false) (dsimp := false) only [List.map_append, List.length_append, ↓vcells_o, List.getD_cons_zero, List.map_cons, List.map_nil, List.length_cons, List.length_nil, Bool.and_self, Nat.reduceAdd, Nat.reduceSub, Nat.reduceMul, Nat.zero_add, evK_go, reduceIte, Nat.reduceEqDiff, Nat.reduceLT, and_self, Int.zero_add, slots, wkL_nil, wkL_cons, wkB_nil, wkB_cons, wkR_nil, wkR_some, wkV_j, wkV_d, wkV_o, wkV_p, frz_d, oK_zs, pK_z, reduceCtorEq]
  · rintro l rfl
    simp (implicitDefEqProofs := false) (dsimp := false) only [slots, ↓optK_some, ↓rwK_mk_, ↓nthK_H, ↓nthH_zero, ↓aw_seq, ↓aw_ret, ↓aw_reg, ↓Qseq_n, ↓Qblk_n, ↓ops_nil, ↓ops_cons, ↓eval_tmp, ↓put_some, ↓ldK_p, ↓op_assign, ↓op_load, ↓row_sz, ↓row_xs, ↓vcells_o, ↓take_map, ↓Qrow_r, ↓rowK_o, ↓ty24, List.getD_cons_zero, List.getD_cons_succ, List.set_cons_zero, List.set_cons_succ, Bool.and_self, Nat.reduceAdd, Nat.reduceSub, Nat.reduceMul, List.replicate, evK_go, reduceIte, Nat.reduceEqDiff, Nat.reduceLT, and_self, List.foldl_cons, List.foldl_nil]
theorem collect_spec (s : Nat) (hs : s < 2 ^ 64) : FnR Tryd.prog 112 [.f (.func 111) [.q [U s]]] 1 ((ptsI s).map (I .i64)) := by
  refine FnR.go Tryd.func112 rfl rfl Tryd.results112 Tryd.ntmps112 ?_
  simp (implicitDefEqProofs := false) (dsimp := false) only [↓aw_seq, ↓aw_reg, ↓Qseq_n, ↓ops_nil, ↓ops_cons, ↓eval_tmp, ↓eval_nil, ↓eval_func, ↓put_some, ↓op_move, ↓op_assign, ↓op_call, isD_d, isD_nl, ↓fnK_f, ↓call_H, ↓callK_H, ↓allT_nil, ↓allT_cons, ↓td_d, ↓td_nl, List.getD_cons_zero, List.getD_cons_succ, List.set_cons_zero, List.set_cons_succ, List.cons_append, List.nil_append, List.append_nil, List.map_cons, List.map_nil, List.length_cons, List.length_nil, List.all_cons, List.all_nil, Bool.and_self, Nat.reduceAdd, Nat.reduceSub, Nat.reduceMul, Nat.zero_add, List.replicate, evK_go, reduceIte, Nat.reduceEqDiff, Nat.reduceLT, and_self, Int.zero_add]
  refine OrH.r ?_
  refine callNil rfl rfl (appendSeq_spec s hs) ?_
  rintro r rfl
  simp (implicitDefEqProofs := false) (dsimp := false) only [↓optK_some, ↓rwK_mk_, ↓aw_ret, ↓Qseq_n, ↓ops_nil, ↓ops_cons, ↓eval_tmp, ↓put_some, ↓op_assign, ↓addRow_mk, ↓st_rw, ↓row_sz, ↓row_xs, ↓take_map, ↓res_H, ↓resH_row, ↓Qrow_r, ↓rowK_o, List.getD_cons_zero, List.getD_cons_succ, List.set_cons_zero, List.set_cons_succ, List.nil_append, List.length_nil, List.length_map, Bool.and_self, Nat.reduceAdd, Nat.reduceSub, Nat.reduceMul, evK_go, reduceIte, Nat.reduceEqDiff, Nat.reduceLT, and_self]
theorem collect_call (s : Nat) (pure : Bool) (σ : St) (dst : Option Tmp) (K : St → Prop) : CallH Tryd.prog 112 [.f (.func 111) [.q [U s]]] pure σ dst (.mk : Hid K) = OrH ((s < 2 ^ 64) ∧ (pure || Res.flat (.row 1 ((ptsI s).map (I .i64)))) = true ∧ evK ((σ.addRow ⟨1, (ptsI s).map (I .i64)⟩).put dst (.o σ.rw.length 0 (List.length ((ptsI s).map (I .i64))))) (.mk : Hid K)) (.mk : Hid (CallH Tryd.prog 112 [.f (.func 111) [.q [U s]]] pure σ dst (.mk : Hid K))) := CallH.eqR (fun h => collect_spec s h) pure σ dst K
theorem list_spec (s : Nat) (hs : s < 2 ^ 64) : FnR Tryd.prog 84 [U s] 1 ((ptsI s).map (I .i64)) := by
  refine FnR.go Tryd.func84 rfl rfl Tryd.results84 Tryd.ntmps84 ?_
  simp (implicitDefEqProofs := false) (dsimp := false) only [↓aw_seq, ↓aw_reg, ↓Qseq_n, ↓ops_nil, ↓ops_cons, ↓eval_tmp, ↓eval_nil, ↓eval_func, ↓put_some, ↓op_move, ↓op_assign, ↓op_call, isD_d, ↓fnK_f, ↓call_H, ↓callK_H, ↓allT_nil, ↓allT_cons, ↓td_d, List.getD_cons_zero, List.getD_cons_succ, List.set_cons_zero, List.set_cons_succ, List.cons_append, List.nil_append, List.append_nil, List.map_cons, List.map_nil, List.length_cons, List.length_nil, List.all_cons, List.all_nil, Bool.and_self, Nat.reduceAdd, Nat.reduceSub, Nat.reduceMul, Nat.zero_add, List.replicate, evK_go, reduceIte, Nat.reduceEqDiff, Nat.reduceLT, and_self, Int.zero_add]
  simp (implicitDefEqProofs := false) (dsimp := false) only [each_call, collect_call, hs, ↓optK_some, ↓rwK_mk_, ↓aw_ret, ↓Qseq_n, ↓ops_nil, ↓ops_cons, ↓eval_tmp, ↓eval_func, ↓put_some, ↓op_assign, ↓op_call, ↓orH_T, isD_d, ↓fnK_f, ↓call_H, ↓callK_H, ↓allT_nil, ↓allT_cons, ↓td_d, ↓addRow_mk, ↓st_rw, ↓row_sz, ↓row_xs, ↓take_map, ↓Qrow_r, ↓rowK_o, List.getD_cons_zero, List.getD_cons_succ, List.set_cons_zero, List.set_cons_succ, List.nil_append, List.append_nil, List.length_nil, List.length_map, List.all_cons, List.all_nil, Bool.and_self, Bool.true_or, Nat.reduceAdd, Nat.reduceSub, Nat.reduceMul, evK_go, reduceIte, Nat.reduceEqDiff, Nat.reduceLT, and_self]
theorem list_call (s : Nat) (pure : Bool) (σ : St) (dst : Option Tmp) (K : St → Prop) : CallH Tryd.prog 84 [U s] pure σ dst (.mk : Hid K) = OrH ((s < 2 ^ 64) ∧ (pure || Res.flat (.row 1 ((ptsI s).map (I .i64)))) = true ∧ evK ((σ.addRow ⟨1, (ptsI s).map (I .i64)⟩).put dst (.o σ.rw.length 0 (List.length ((ptsI s).map (I .i64))))) (.mk : Hid K)) (.mk : Hid (CallH Tryd.prog 84 [U s] pure σ dst (.mk : Hid K))) := CallH.eqR (fun h => list_spec s h) pure σ dst K
theorem list_callD (s : Nat) (pure : Bool) (σ : St) (dst : Option Tmp) (K : St → Prop) : CallH Tryd.prog 84 [U s] pure σ dst (.mk : Hid K) = OrH ((s < 2 ^ 64) ∧ (pure || D.flat (.l ((ptsI s).map (I .i64)))) = true ∧ evK (σ.put dst (.d (.l ((ptsI s).map (I .i64))))) (.mk : Hid K)) (.mk : Hid (CallH Tryd.prog 84 [U s] pure σ dst (.mk : Hid K))) := CallH.eq (fun h => ((fun h => list_spec s h) h).data) pure σ dst K
theorem list_callDQ (s : Nat) (pure : Bool) (C : V → Prop) : CallQ Tryd.prog 84 [U s] pure (.mk : Hid C) = OrH ((s < 2 ^ 64) ∧ (pure || D.flat (.l ((ptsI s).map (I .i64)))) = true ∧ evK (V.d (.l ((ptsI s).map (I .i64)))) (.mk : Hid C)) (.mk : Hid (CallQ Tryd.prog 84 [U s] pure (.mk : Hid C))) := CallQ.eq (fun h => ((fun h => list_spec s h) h).data) pure C
end Go.Proofs

namespace Go.Proofs
open Go.Aw
set_option linter.unusedSimpArgs false
set_option maxRecDepth 10000
/-- A line as data. -/
def lnD (p : Int × Int) : D := .s [I .i64 p.1, I .i64 p.2]
def inB (n lo hi : Int) : Bool := decide (lo ≤ n) && decide (n ≤ hi)
theorem within_spec (n low high : Int) : FnD Tryd.prog 93 [I .i64 n, I .i64 low, I .i64 high] (Bo (inB n low high)) := by
  refine FnD.go Tryd.func93 rfl rfl Tryd.results93 Tryd.ntmps93 ?_
  simp (implicitDefEqProofs := false) (dsimp := false) only [↓gdK_t, ↓gval_mk, ↓gvL_zero, ↓gvL_succ, ↓aw_seq, ↓aw_reg, ↓Qseq_n, ↓ops_nil, ↓ops_cons, ↓ops_guard, ↓eval_tmp, ↓eval_bool, ↓put_some, ↓binE_i, ↓bi_geq, ↓op_move, ↓op_assign, ↓op_bin, ↓st_tm, List.getD_cons_zero, List.getD_cons_succ, List.set_cons_zero, List.set_cons_succ, List.cons_append, List.nil_append, List.map_cons, List.map_nil, List.length_cons, List.length_nil, Nat.reduceAdd, Nat.reduceSub, Nat.reduceMul, Nat.zero_add, List.replicate, evK_go, reduceIte, Nat.reduceEqDiff, Nat.reduceLT, Int.zero_add]
  refine cdK_dec (fun h => ?_) (fun h => ?_) <;> simp (implicitDefEqProofs := false) (dsimp := false) only [h, inB, ↓cdK_true, ↓cdK_false, ↓gdK_t, ↓gval_mk, ↓gvL_zero, ↓gvL_succ, ↓aw_ret, ↓Qseq_n, ↓Qret_r, ↓ops_nil, ↓ops_cons, ↓ops_guard, ↓eval_tmp, ↓eval_bool, ↓put_some, ↓bK_b, ↓binE_i, ↓bi_leq, ↓op_move, ↓op_assign, ↓op_pick, ↓op_bin, ↓td_d, ↓ret_1, ↓st_tm, List.getD_cons_zero, List.getD_cons_succ, List.set_cons_zero, List.set_cons_succ, Bool.true_and, Bool.false_and, Nat.reduceAdd, Nat.reduceSub, Nat.reduceMul, evK_go, reduceIte, decide_true, decide_false, Nat.reduceEqDiff, Nat.reduceLT, true_and]
theorem within_call (n low high : Int) (pure : Bool) (σ : St) (dst : Option Tmp) (K : St → Prop) : CallH Tryd.prog 93 [I .i64 n, I .i64 low, I .i64 high] pure σ dst (.mk : Hid K) = OrH ((pure || D.flat (Bo (inB n low high))) = true ∧ evK (σ.put dst (.d (Bo (inB n low high)))) (.mk : Hid K)) (.mk : Hid (CallH Tryd.prog 93 [I .i64 n, I .i64 low, I .i64 high] pure σ dst (.mk : Hid K))) := CallH.eq0 (within_spec n low high) pure σ dst K
theorem within_callQ (n low high : Int) (pure : Bool) (C : V → Prop) : CallQ Tryd.prog 93 [I .i64 n, I .i64 low, I .i64 high] pure (.mk : Hid C) = OrH ((pure || D.flat (Bo (inB n low high))) = true ∧ evK (V.d (Bo (inB n low high))) (.mk : Hid C)) (.mk : Hid (CallQ Tryd.prog 93 [I .i64 n, I .i64 low, I .i64 high] pure (.mk : Hid C))) := CallQ.eq0 (within_spec n low high) pure C
theorem all_spec (l : List Int) (low high : Int) (hpre : l.length < 2 ^ 62) : FnD Tryd.prog 97 [.l (l.map (I .i64)), I .i64 low, I .i64 high] (Bo (l.all fun x => inB x low high)) := by
  refine FnD.go Tryd.func97 rfl rfl Tryd.results97 Tryd.ntmps97 ?_
  simp (implicitDefEqProofs := false) (dsimp := false) only [↓aw_seq, ↓aw_block, ↓aw_loop, ↓aw_reg, ↓Qseq_n, ↓ops_nil, ↓ops_cons, ↓eval_tmp, ↓eval_int, ↓eval_bool, ↓put_some, ↓lenK_l, ↓op_move, ↓op_assign, ↓op_len, ↓sl24, List.getD_cons_zero, List.getD_cons_succ, List.set_cons_zero, List.set_cons_succ, List.cons_append, List.nil_append, List.map_cons, List.map_nil, List.length_cons, List.length_nil, List.length_map, Nat.reduceAdd, Nat.reduceSub, Nat.reduceMul, Nat.zero_add, List.replicate, evK_go, reduceIte, Nat.reduceEqDiff, Nat.reduceLT, Int.zero_add]
  refine loopW (fun k : Nat => { tm := slots 21 [(1, .d (I .i64 low)), (2, .d (I .i64 high)), (9, .d (.l (l.map (I .i64)))), (10, .d (I .i64 l.length)), (11, .d (I .i64 k))], bx := [], rw := [] })
    (fun k => k ≤ l.length ∧ (l.take k).all (fun x => inB x low high) = true) (fun k => l.length - k) 0 ⟨by simp, by simp⟩ ?_ ?_
  · refine Wkn.of [] [] ?_
    simp (implicitDefEqProofs := false) (dsimp := false) only [List.set_cons_zero, List.set_cons_succ, Bool.and_self, Nat.reduceAdd, Nat.reduceSub, Nat.reduceMul, List.replicate, evK_go, reduceIte, Nat.reduceEqDiff, Nat.reduceLT, and_self, List.foldl_cons, List.foldl_nil, Int.cast_ofNat_Int, slots, wkL_nil, wkL_cons, wkB_nil, wkR_nil, wkV_j, wkV_d, frz_d, reduceCtorEq]
  · rintro k ⟨h1, h2⟩
    simp (implicitDefEqProofs := false) (dsimp := false) only [slots, ↓aw_cond, ↓aw_seq, ↓aw_reg, ↓Qseq_n, ↓ops_nil, ↓ops_cons, ↓eval_tmp, ↓put_some, ↓bK_b, ↓binE_i, ↓bi_lss, ↓op_bin, List.getD_cons_zero, List.getD_cons_succ, List.set_cons_zero, List.set_cons_succ, Nat.reduceAdd, Nat.reduceSub, Nat.reduceMul, List.replicate, evK_go, reduceIte, Nat.reduceEqDiff, Nat.reduceLT, List.foldl_cons, List.foldl_nil, Int.ofNat_lt]
    refine cdK_dec (fun h => ?_) (fun h => ?_)
    · simp (implicitDefEqProofs := false) (dsimp := false) only [h, within_call, ↓cdK_not, ↓atK_H, ↓atH_map, ↓aw_cond, ↓aw_seq, ↓aw_block, ↓aw_skip, ↓aw_reg, ↓Qseq_n, ↓ops_nil, ↓ops_cons, ↓eval_tmp, ↓eval_func, ↓put_some, ↓bK_b, ↓iK_i, ↓ldK_q, ↓iaK_l, ↓op_move, ↓op_assign, ↓op_load, ↓op_not, ↓op_ia, ↓op_call, isD_d, ↓fnK_f, ↓call_H, ↓callK_H, ↓allT_nil, ↓allT_cons, ↓td_d, ↓cells_c, ↓hd_cons, ↓ty3, ↓sl24, List.getD_cons_zero, List.getD_cons_succ, List.set_cons_zero, List.set_cons_succ, List.append_nil, List.length_cons, List.length_nil, List.all_cons, List.all_nil, Bool.true_and, Bool.and_self, Bool.true_or, Nat.reduceAdd, Nat.reduceSub, Nat.reduceMul, Nat.zero_add, Int.toNat_natCast, evK_go, reduceIte, decide_true, Nat.reduceEqDiff, Nat.reduceLT, and_self, true_and, Int.zero_add, Int.natCast_nonneg]
      refine OrH.l (OrH.l ?_)
      refine cdK_split (fun hb => ?_) (fun hb => ?_)
      · simp (implicitDefEqProofs := false) (dsimp := false) only [↓aw_skip, ↓aw_reg, ↓Qseq_n, ↓Qblk_n, ↓ops_nil, ↓ops_cons, ↓eval_tmp, ↓eval_int, ↓put_some, ↓binE_i, ↓bi_add, ↓in_i64, ↓op_move, ↓op_bin, List.getD_cons_zero, List.getD_cons_succ, List.set_cons_zero, List.set_cons_succ, Nat.reduceAdd, Nat.reduceSub, Nat.reduceMul, evK_go, reduceIte, Nat.reduceEqDiff, Nat.reduceLT]
        refine ⟨by omega, k + 1, ⟨by omega, ?_⟩, by omega, ?_⟩
        · rw [take_succ_getD h, List.all_append, h2]; simp (implicitDefEqProofs := false) (dsimp := false) only [List.all_cons, List.all_nil, hb, Bool.and_self]
        · refine Wkn.of [] [] ?_
          simp (implicitDefEqProofs := false) (dsimp := false) only [List.set_cons_zero, List.set_cons_succ, Bool.and_self, Nat.reduceAdd, Nat.reduceSub, Nat.reduceMul, List.replicate, evK_go, reduceIte, Nat.reduceEqDiff, Nat.reduceLT, and_self, List.foldl_cons, List.foldl_nil, Int.cast_ofNat_Int, Int.natCast_add, slots, wkL_nil, wkL_cons, wkB_nil, wkR_nil, wkV_j, wkV_d, frz_d, reduceCtorEq]
      · simp (implicitDefEqProofs := false) (dsimp := false) only [all_false (p := fun x => inB x low high) h hb, ↓aw_seq, ↓aw_ret, ↓aw_reg, ↓Qseq_n, ↓Qseq_r, ↓Qblk_r, ↓Qret_r, ↓ops_nil, ↓ops_cons, ↓eval_tmp, ↓eval_bool, ↓put_some, ↓op_assign, ↓td_d, ↓ret_1, List.getD_cons_zero, List.getD_cons_succ, List.set_cons_zero, List.set_cons_succ, Nat.reduceAdd, Nat.reduceSub, Nat.reduceMul, evK_go, reduceIte, Nat.reduceEqDiff, Nat.reduceLT]
    · simp (implicitDefEqProofs := false) (dsimp := false) only [↓aw_seq, ↓aw_exit, ↓aw_ret, ↓aw_reg, ↓Qseq_n, ↓Qseq_x, ↓Qblk_x, ↓Qret_r, ↓ops_nil, ↓ops_cons, ↓eval_tmp, ↓eval_bool, ↓put_some, ↓op_assign, ↓td_d, ↓ret_1, List.getD_cons_zero, List.getD_cons_succ, List.set_cons_zero, List.set_cons_succ, Nat.reduceAdd, Nat.reduceSub, Nat.reduceMul, evK_go, reduceIte, Nat.reduceEqDiff, Nat.reduceLT]
      obtain rfl : k = l.length := by omega
      rw [List.take_length] at h2
      rw [h2]
theorem all_call (l : List Int) (low high : Int) (pure : Bool) (σ : St) (dst : Option Tmp) (K : St → Prop) : CallH Tryd.prog 97 [.l (l.map (I .i64)), I .i64 low, I .i64 high] pure σ dst (.mk : Hid K) = OrH ((l.length < 2 ^ 62) ∧ (pure || D.flat (Bo (l.all fun x => inB x low high))) = true ∧ evK (σ.put dst (.d (Bo (l.all fun x => inB x low high)))) (.mk : Hid K)) (.mk : Hid (CallH Tryd.prog 97 [.l (l.map (I .i64)), I .i64 low, I .i64 high] pure σ dst (.mk : Hid K))) := CallH.eq (all_spec l low high) pure σ dst K
theorem all_callQ (l : List Int) (low high : Int) (pure : Bool) (C : V → Prop) : CallQ Tryd.prog 97 [.l (l.map (I .i64)), I .i64 low, I .i64 high] pure (.mk : Hid C) = OrH ((l.length < 2 ^ 62) ∧ (pure || D.flat (Bo (l.all fun x => inB x low high))) = true ∧ evK (V.d (Bo (l.all fun x => inB x low high))) (.mk : Hid C)) (.mk : Hid (CallQ Tryd.prog 97 [.l (l.map (I .i64)), I .i64 low, I .i64 high] pure (.mk : Hid C))) := CallQ.eq (all_spec l low high) pure C
end Go.Proofs

namespace Go.Proofs
open Go.Aw
set_option linter.unusedSimpArgs false
set_option maxRecDepth 10000
def lineErr (n : Int) (p : Int × Int) : Int := if (inB p.1 0 (n - 1) && inB p.2 0 (n - 1)) = false then 1 else if p.1 = p.2 then 3 else 0
def firstErr (f : Int × Int → Int) : List (Int × Int) → Int
  | [] => 0
  | p :: l => if f p = 0 then firstErr f l else f p
def chk (n : Int) (l : List (Int × Int)) : Int := if inB n 1 8 = false then 1 else if 24 < l.length then 4 else firstErr (lineErr n) l
/-- An error as data. -/
def erD (e : Int) : D := if e = 0 then .c .nilIface else .c (.iface 108 (.int .i64 e))
theorem erD_1 : erD 1 = .c (.iface 108 (.int .i64 1)) := rfl
theorem erD_3 : erD 3 = .c (.iface 108 (.int .i64 3)) := rfl
theorem erD_4 : erD 4 = .c (.iface 108 (.int .i64 4)) := rfl
theorem erD_0 : erD 0 = .c .nilIface := rfl
theorem lnD_cells (p : Int × Int) : (lnD p).cells = [I .i64 p.1, I .i64 p.2] := rfl
theorem eval_nilI (σ : St) : St.eval σ (.const .nilIface) = .d (.c .nilIface) := rfl
theorem firstErr_take {f : Int × Int → Int} {l : List (Int × Int)} {k : Nat} (h : k < l.length) (h0 : firstErr f (l.take k) = 0) : (f (l.getD k default) = 0 → firstErr f (l.take (k + 1)) = 0) ∧ (f (l.getD k default) ≠ 0 → firstErr f l = f (l.getD k default)) := by
  induction l generalizing k with
  | nil => simp at h
  | cons p l ih =>
    cases k with
    | zero => 
      constructor
      · intro h1
        have h1 : f p = 0 := h1
        simp [firstErr, h1]
      · intro h1
        have h1 : f p ≠ 0 := h1
        show (if f p = 0 then firstErr f l else f p) = f p
        rw [if_neg h1]
    | succ k =>
      have e : firstErr f (p :: l.take k) = 0 := h0
      by_cases hp : f p = 0
      · have e2 : firstErr f (l.take k) = 0 := by simpa [firstErr, hp] using e
        obtain ⟨g1, g2⟩ := ih (by simpa using h) e2
        constructor
        · intro h1
          show firstErr f (p :: l.take (k + 1)) = 0
          simp (implicitDefEqProofs := false) (dsimp := false) only [firstErr, hp, if_true]
          exact g1 h1
        · intro h1
          show firstErr f (p :: l) = _
          simp (implicitDefEqProofs := false) (dsimp := false) only [firstErr, hp, if_true]
          exact g2 h1
      · simp [firstErr, hp] at e
theorem all2_spec (a b low high : Int) : FnD Tryd.prog 97 [.l [I .i64 a, I .i64 b], I .i64 low, I .i64 high] (Bo (inB a low high && inB b low high)) := by
  have h := all_spec [a, b] low high (by simp)
  simpa using h
theorem all2_call (a b low high : Int) (pure : Bool) (σ : St) (dst : Option Tmp) (K : St → Prop) : CallH Tryd.prog 97 [.l [I .i64 a, I .i64 b], I .i64 low, I .i64 high] pure σ dst (.mk : Hid K) = OrH ((pure || D.flat (Bo (inB a low high && inB b low high))) = true ∧ evK (σ.put dst (.d (Bo (inB a low high && inB b low high)))) (.mk : Hid K)) (.mk : Hid (CallH Tryd.prog 97 [.l [I .i64 a, I .i64 b], I .i64 low, I .i64 high] pure σ dst (.mk : Hid K))) := CallH.eq0 (all2_spec a b low high) pure σ dst K
theorem all2_callQ (a b low high : Int) (pure : Bool) (C : V → Prop) : CallQ Tryd.prog 97 [.l [I .i64 a, I .i64 b], I .i64 low, I .i64 high] pure (.mk : Hid C) = OrH ((pure || D.flat (Bo (inB a low high && inB b low high))) = true ∧ evK (V.d (Bo (inB a low high && inB b low high))) (.mk : Hid C)) (.mk : Hid (CallQ Tryd.prog 97 [.l [I .i64 a, I .i64 b], I .i64 low, I .i64 high] pure (.mk : Hid C))) := CallQ.eq0 (all2_spec a b low high) pure C
theorem check_spec (n : Int) (l : List (Int × Int)) (hpre : l.length < 2 ^ 62) : FnD Tryd.prog 110 [I .i64 n, .l (l.map lnD)] (erD (chk n l)) := by
  refine FnD.go Tryd.func110 rfl rfl Tryd.results110 Tryd.ntmps110 ?_
  simp (implicitDefEqProofs := false) (dsimp := false) only [within_call, eval_nilI, ↓cdK_not, ↓aw_cond, ↓aw_seq, ↓aw_reg, ↓Qseq_n, ↓ops_nil, ↓ops_cons, ↓eval_tmp, ↓eval_int, ↓eval_func, ↓put_some, ↓bK_b, ↓op_move, ↓op_assign, ↓op_not, ↓op_call, isD_d, ↓fnK_f, ↓call_H, ↓callK_H, ↓allT_nil, ↓allT_cons, ↓td_d, List.getD_cons_zero, List.getD_cons_succ, List.set_cons_zero, List.set_cons_succ, List.cons_append, List.nil_append, List.append_nil, List.map_cons, List.map_nil, List.length_cons, List.length_nil, List.all_cons, List.all_nil, Bool.true_and, Bool.and_self, Bool.true_or, Nat.reduceAdd, Nat.reduceSub, Nat.reduceMul, Nat.zero_add, List.replicate, evK_go, reduceIte, Nat.reduceEqDiff, Nat.reduceLT, and_self, true_and, Int.zero_add]
  refine OrH.l (OrH.l (cdK_split (fun hn => ?_) (fun hn => ?_)))
  rotate_left
  · simp (implicitDefEqProofs := false) (dsimp := false) only [chk, hn, nc108, erD_1, ↓aw_seq, ↓aw_ret, ↓aw_reg, ↓Qseq_n, ↓Qseq_r, ↓Qret_r, ↓ops_nil, ↓ops_cons, ↓eval_tmp, ↓eval_int, ↓put_some, ↓vK_c, ↓op_assign, ↓op_iface, ↓td_d, ↓ret_1, ↓nc108, List.getD_cons_zero, List.getD_cons_succ, List.set_cons_zero, List.set_cons_succ, Bool.and_self, Nat.reduceAdd, Nat.reduceSub, Nat.reduceMul, evK_go, reduceIte, Bool.not_false, Nat.reduceEqDiff, Nat.reduceLT, and_self]
  simp (implicitDefEqProofs := false) (dsimp := false) only [↓aw_cond, ↓aw_seq, ↓aw_skip, ↓aw_reg, ↓Qseq_n, ↓ops_nil, ↓ops_cons, ↓eval_tmp, ↓eval_int, ↓put_some, ↓bK_b, ↓lenK_l, ↓binE_i, ↓bi_gtr, ↓op_move, ↓op_bin, ↓op_len, ↓sl22, List.getD_cons_zero, List.getD_cons_succ, List.set_cons_zero, List.set_cons_succ, List.length_map, Nat.reduceAdd, Nat.reduceSub, Nat.reduceMul, evK_go, reduceIte, Nat.reduceEqDiff, Nat.reduceLT]
  refine cdK_dec (fun h24 => ?_) (fun h24 => ?_)
  · have h24' : 24 < l.length := by omega
    simp (implicitDefEqProofs := false) (dsimp := false) only [chk, hn, h24', nc108, ↓aw_seq, ↓aw_ret, ↓aw_reg, ↓Qseq_n, ↓Qseq_r, ↓Qret_r, ↓ops_nil, ↓ops_cons, ↓eval_tmp, ↓eval_int, ↓put_some, ↓vK_c, ↓op_assign, ↓op_iface, ↓td_d, ↓ret_1, ↓nc108, List.getD_cons_zero, List.getD_cons_succ, List.set_cons_zero, List.set_cons_succ, Bool.true_and, Nat.reduceAdd, Nat.reduceSub, Nat.reduceMul, evK_go, reduceIte, Bool.not_true, Nat.reduceEqDiff, Nat.reduceLT, true_and]
    simp (implicitDefEqProofs := false) (dsimp := false) only [Bool.true_eq_false, reduceIte, erD_4]
  have h24' : ¬ 24 < l.length := by omega
  have hc : chk n l = firstErr (lineErr n) l := by simp [chk, hn, h24']
  rw [hc]
  simp (implicitDefEqProofs := false) (dsimp := false) only [↓aw_seq, ↓aw_block, ↓aw_skip, ↓aw_loop, ↓aw_reg, ↓Qseq_n, ↓ops_nil, ↓ops_cons, ↓eval_tmp, ↓eval_int, ↓put_some, ↓lenK_l, ↓op_move, ↓op_len, ↓sl22, List.getD_cons_zero, List.getD_cons_succ, List.set_cons_zero, List.set_cons_succ, List.length_map, Nat.reduceAdd, Nat.reduceSub, Nat.reduceMul, evK_go, reduceIte, Nat.reduceEqDiff, Nat.reduceLT]
  have hn' : 1 ≤ n ∧ n ≤ 8 := by simpa [inB] using hn
  refine loopW (fun k : Nat => { tm := slots 38 [(0, .d (I .i64 n)), (15, .d (.l (l.map lnD))), (16, .d (I .i64 l.length)), (17, .d (I .i64 k))], bx := [], rw := [] })
    (fun k => k ≤ l.length ∧ firstErr (lineErr n) (l.take k) = 0) (fun k => l.length - k) 0 ⟨by simp, by simp [firstErr]⟩ ?_ ?_
  · refine Wkn.of [] [] ?_
    simp (implicitDefEqProofs := false) (dsimp := false) only [List.set_cons_zero, List.set_cons_succ, Bool.and_self, Nat.reduceAdd, Nat.reduceSub, Nat.reduceMul, List.replicate, evK_go, reduceIte, Nat.reduceEqDiff, Nat.reduceLT, and_self, List.foldl_cons, List.foldl_nil, Int.cast_ofNat_Int, slots, wkL_nil, wkL_cons, wkB_nil, wkR_nil, wkV_j, wkV_d, frz_d, reduceCtorEq]
  · rintro k ⟨h1, h2⟩
    simp (implicitDefEqProofs := false) (dsimp := false) only [slots, ↓aw_cond, ↓aw_seq, ↓aw_reg, ↓Qseq_n, ↓ops_nil, ↓ops_cons, ↓eval_tmp, ↓put_some, ↓bK_b, ↓binE_i, ↓bi_lss, ↓op_bin, List.getD_cons_zero, List.getD_cons_succ, List.set_cons_zero, List.set_cons_succ, Nat.reduceAdd, Nat.reduceSub, Nat.reduceMul, List.replicate, evK_go, reduceIte, Nat.reduceEqDiff, Nat.reduceLT, List.foldl_cons, List.foldl_nil, Int.ofNat_lt]
    refine cdK_dec (fun h => ?_) (fun h => ?_)
    · obtain ⟨g1, g2⟩ := firstErr_take h h2
      simp (implicitDefEqProofs := false) (dsimp := false) only [h, lnD, all2_call, ↓cdK_not, ↓atK_H, ↓atH_map, ↓nthK_H, ↓nthH_zero, ↓nthH_succ, ↓aw_cond, ↓aw_seq, ↓aw_block, ↓aw_skip, ↓aw_reg, ↓Qseq_n, ↓ops_nil, ↓ops_cons, ↓eval_tmp, ↓eval_int, ↓eval_func, ↓put_some, ↓put_none, ↓bK_b, ↓iK_i, ↓dK_d, ↓binE_i, ↓bi_sub, ↓in_i64, ↓ldK_q, ↓ldK_p, ↓faK_p, ↓iaK_l, ↓op_move, ↓op_load, ↓op_bin, ↓op_not, ↓op_fa, ↓op_ia, ↓op_call, ↓op_alloc, ↓op_store, isD_d, ↓fnK_f, ↓call_H, ↓callK_H, ↓allT_nil, ↓allT_cons, ↓allD_nil, ↓allD_cons, ↓td_d, ↓addBox_mk, ↓setBox_mk, ↓st_bx, ↓cells_c, ↓cells_s, ↓vcells_s, ↓one_i, ↓vone_d, constV_a, ↓st_p, ↓bs_, ↓op_bs, ↓bsL_f, ↓stored_mk, ↓sl_nil, ↓sl_cons, ↓sT_move, ↓sT_load, ↓sT_bin, ↓sT_un, ↓sT_fa, ↓sT_bs, ↓sT_call, ↓vsz_int, ↓inO_2, ↓fm_nil, ↓fm_cons, ↓ty3, ↓zb3, ↓sl22, ↓sl24, ↓ty41, ↓zb41, ↓fd41_0, ↓fd41_1, List.getD_cons_zero, List.getD_cons_succ, List.set_cons_zero, List.set_cons_succ, List.nil_append, List.append_nil, List.map_cons, List.map_nil, List.length_cons, List.length_nil, List.all_cons, List.all_nil, Bool.true_and, Bool.and_self, Bool.true_or, Bool.or_false, Nat.reduceAdd, Nat.reduceSub, Nat.reduceMul, Nat.zero_add, Nat.add_zero, Int.toNat_natCast, evK_go, reduceIte, decide_true, Nat.reduceEqDiff, Nat.reduceLT, and_self, true_and, Int.zero_add, List.take_succ_cons, List.take_nil, Int.natCast_nonneg]
      refine ⟨by omega, by omega, by omega, OrH.l (OrH.l (cdK_split (fun hb => ?_) (fun hb => ?_)))⟩
      · simp (implicitDefEqProofs := false) (dsimp := false) only [↓nthK_H, ↓nthH_zero, ↓nthH_succ, ↓aw_cond, ↓aw_seq, ↓aw_skip, ↓aw_reg, ↓Qseq_n, ↓ops_nil, ↓ops_cons, ↓eval_tmp, ↓put_some, ↓bK_b, ↓binE_i, ↓bi_eql, ↓ldK_p, ↓faK_p, ↓op_load, ↓op_bin, ↓op_fa, ↓vcells_s, ↓ty3, ↓fd41_0, ↓fd41_1, List.getD_cons_zero, List.getD_cons_succ, List.set_cons_zero, List.set_cons_succ, List.map_cons, List.map_nil, Bool.true_and, Nat.reduceAdd, Nat.reduceSub, Nat.reduceMul, Nat.zero_add, Nat.add_zero, evK_go, reduceIte, Nat.reduceEqDiff, Nat.reduceLT, true_and, Int.zero_add]
        refine cdK_dec (fun he => ?_) (fun he => ?_)
        · have e : lineErr n (l.getD k default) = 3 := by unfold lineErr; rw [hb, if_neg (by decide), if_pos he]
          rw [g2 (by rw [e]; decide), e]
          simp (implicitDefEqProofs := false) (dsimp := false) only [nc108, erD_3, ↓aw_seq, ↓aw_ret, ↓aw_reg, ↓Qseq_n, ↓Qseq_r, ↓Qblk_r, ↓Qret_r, ↓ops_nil, ↓ops_cons, ↓eval_tmp, ↓eval_int, ↓put_some, ↓vK_c, ↓op_assign, ↓op_iface, ↓td_d, ↓ret_1, ↓nc108, List.getD_cons_zero, List.getD_cons_succ, List.set_cons_zero, List.set_cons_succ, Bool.and_self, Nat.reduceAdd, Nat.reduceSub, Nat.reduceMul, evK_go, reduceIte, Nat.reduceEqDiff, Nat.reduceLT, and_self]
        · have e : lineErr n (l.getD k default) = 0 := by simp (implicitDefEqProofs := false) (dsimp := false) only [lineErr, hb, he, reduceIte, Bool.true_eq_false]
          simp (implicitDefEqProofs := false) (dsimp := false) only [↓aw_skip, ↓aw_reg, ↓Qseq_n, ↓Qblk_n, ↓ops_nil, ↓ops_cons, ↓eval_tmp, ↓eval_int, ↓put_some, ↓binE_i, ↓bi_add, ↓in_i64, ↓op_move, ↓op_bin, List.getD_cons_zero, List.getD_cons_succ, List.set_cons_zero, List.set_cons_succ, Nat.reduceAdd, Nat.reduceSub, Nat.reduceMul, evK_go, reduceIte, Nat.reduceEqDiff, Nat.reduceLT]
          refine ⟨by omega, k + 1, ⟨by omega, g1 e⟩, by omega, ?_⟩
          refine Wkn.of [] [] ?_
          simp (implicitDefEqProofs := false) (dsimp := false) only [List.set_cons_zero, List.set_cons_succ, Bool.and_self, Nat.reduceAdd, Nat.reduceSub, Nat.reduceMul, List.replicate, evK_go, reduceIte, Nat.reduceEqDiff, Nat.reduceLT, and_self, List.foldl_cons, List.foldl_nil, Int.cast_ofNat_Int, Int.natCast_add, slots, wkL_nil, wkL_cons, wkB_nil, wkR_nil, wkV_j, wkV_d, frz_d, reduceCtorEq]
      · have e : lineErr n (l.getD k default) = 1 := by simp (implicitDefEqProofs := false) (dsimp := false) only [lineErr, hb, reduceIte]
        rw [g2 (by rw [e]; decide), e]
        simp (implicitDefEqProofs := false) (dsimp := false) only [nc108, erD_1, ↓aw_seq, ↓aw_ret, ↓aw_reg, ↓Qseq_n, ↓Qseq_r, ↓Qblk_r, ↓Qret_r, ↓ops_nil, ↓ops_cons, ↓eval_tmp, ↓eval_int, ↓put_some, ↓vK_c, ↓op_assign, ↓op_iface, ↓td_d, ↓ret_1, ↓nc108, List.getD_cons_zero, List.getD_cons_succ, List.set_cons_zero, List.set_cons_succ, Bool.and_self, Nat.reduceAdd, Nat.reduceSub, Nat.reduceMul, evK_go, reduceIte, Nat.reduceEqDiff, Nat.reduceLT, and_self]
    · obtain rfl : k = l.length := by omega
      rw [List.take_length] at h2
      rw [h2]
      simp (implicitDefEqProofs := false) (dsimp := false) only [eval_nilI, erD_0, ↓aw_seq, ↓aw_exit, ↓aw_ret, ↓aw_reg, ↓Qseq_n, ↓Qseq_x, ↓Qblk_x, ↓Qret_r, ↓ops_nil, ↓ops_cons, ↓eval_tmp, ↓put_some, ↓op_assign, ↓td_d, ↓ret_1, List.getD_cons_zero, List.getD_cons_succ, List.set_cons_zero, List.set_cons_succ, Nat.reduceAdd, Nat.reduceSub, Nat.reduceMul, evK_go, reduceIte, decide_false, Nat.reduceEqDiff, Nat.reduceLT, Nat.lt_irrefl]
theorem check_call (n : Int) (l : List (Int × Int)) (pure : Bool) (σ : St) (dst : Option Tmp) (K : St → Prop) : CallH Tryd.prog 110 [I .i64 n, .l (l.map lnD)] pure σ dst (.mk : Hid K) = OrH ((l.length < 2 ^ 62) ∧ (pure || D.flat (erD (chk n l))) = true ∧ evK (σ.put dst (.d (erD (chk n l)))) (.mk : Hid K)) (.mk : Hid (CallH Tryd.prog 110 [I .i64 n, .l (l.map lnD)] pure σ dst (.mk : Hid K))) := CallH.eq (check_spec n l) pure σ dst K
theorem check_callQ (n : Int) (l : List (Int × Int)) (pure : Bool) (C : V → Prop) : CallQ Tryd.prog 110 [I .i64 n, .l (l.map lnD)] pure (.mk : Hid C) = OrH ((l.length < 2 ^ 62) ∧ (pure || D.flat (erD (chk n l))) = true ∧ evK (V.d (erD (chk n l))) (.mk : Hid C)) (.mk : Hid (CallQ Tryd.prog 110 [I .i64 n, .l (l.map lnD)] pure (.mk : Hid C))) := CallQ.eq (check_spec n l) pure C
end Go.Proofs

namespace Go.Proofs
open Go.Aw
set_option linter.unusedSimpArgs false
set_option maxRecDepth 10000
/-- A line of points as data. -/
def lnN (p : Nat × Nat) : D := .s [I .i64 (p.1 : Int), I .i64 (p.2 : Int)]
theorem lnN_cells (p : Nat × Nat) : (lnN p).cells = [I .i64 (p.1 : Int), I .i64 (p.2 : Int)] := rfl
theorem out_spec (n : Nat) (l : List (Nat × Nat)) (hpre : n ≤ 64 ∧ l.length < 2 ^ 62 ∧ ∀ p ∈ l, p.1 < n ∧ p.2 < 64) : FnR Tryd.prog 81 [I .i64 (n : Int), .l (l.map lnN)] 1 ((outS n l).map U) := by
  obtain ⟨hn, hl, hp⟩ := hpre
  refine FnR.go Tryd.func81 rfl rfl Tryd.results81 Tryd.ntmps81 ?_
  simp (implicitDefEqProofs := false) (dsimp := false) only [↓aw_seq, ↓aw_block, ↓aw_loop, ↓aw_reg, ↓Qseq_n, ↓ops_nil, ↓ops_cons, ↓eval_tmp, ↓eval_int, ↓eval_nil, ↓put_some, ↓iK_i, ↓dK_d, ↓lenK_l, ↓op_move, ↓op_assign, ↓op_len, ↓op_make, ↓addRow_mk, ↓st_rw, ↓cells_c, ↓one_i, constV_i, ↓mk_, ↓vsz_int, ↓sl22, ↓sl99, ↓ty102, ↓zb102, List.getD_cons_zero, List.getD_cons_succ, List.set_cons_zero, List.set_cons_succ, List.cons_append, List.nil_append, List.map_cons, List.map_nil, List.length_cons, List.length_nil, List.length_map, List.all_cons, List.all_nil, Bool.and_true, Bool.true_and, Bool.and_self, Nat.reduceAdd, Nat.reduceSub, Nat.reduceMul, Nat.zero_add, Int.toNat_natCast, List.replicate, evK_go, reduceIte, Nat.reduceEqDiff, Nat.reduceLT, and_self, true_and, and_true, Int.zero_add, Int.natCast_nonneg]
  refine ⟨by omega, ?_⟩
  refine loopW (fun k : Nat => { tm := slots 30 [(5, .o 0 0 n), (10, .d (.l (l.map lnN))), (11, .d (I .i64 l.length)), (12, .d (I .i64 k))], bx := [], rw := [some ⟨1, (outS n (l.take k)).map U⟩] })
    (fun k => k ≤ l.length) (fun k => l.length - k) 0 (by simp) ?_ ?_
  · refine Wkn.of [] [some 0] ?_
    simp (implicitDefEqProofs := false) (dsimp := false) only [List.getD_cons_zero, List.set_cons_zero, List.set_cons_succ, Bool.and_true, Bool.true_and, Bool.and_self, Nat.reduceAdd, Nat.reduceSub, Nat.reduceMul, List.replicate, evK_go, reduceIte, Nat.reduceEqDiff, Nat.reduceLT, and_self, true_and, and_true, List.take_zero, List.foldl_cons, List.foldl_nil, Int.cast_ofNat_Int, slots, wkL_nil, wkL_cons, wkB_nil, wkR_nil, wkR_some, wkV_j, wkV_d, wkV_o, frz_d, oK_zs, reduceCtorEq, Option.some.injEq]
    simp [outS, U]
  · rintro k h1
    simp (implicitDefEqProofs := false) (dsimp := false) only [slots, ↓aw_cond, ↓aw_seq, ↓aw_reg, ↓Qseq_n, ↓ops_nil, ↓ops_cons, ↓eval_tmp, ↓put_some, ↓bK_b, ↓binE_i, ↓bi_lss, ↓op_bin, List.getD_cons_zero, List.getD_cons_succ, List.set_cons_zero, List.set_cons_succ, Nat.reduceAdd, Nat.reduceSub, Nat.reduceMul, List.replicate, evK_go, reduceIte, Nat.reduceEqDiff, Nat.reduceLT, List.foldl_cons, List.foldl_nil, Int.ofNat_lt]
    refine cdK_dec (fun h => ?_) (fun h => ?_)
    · simp (implicitDefEqProofs := false) (dsimp := false) only [h, lnN, with_callQ, ↓optK_some, ↓rwK_mk_, ↓atK_H, ↓atH_map, ↓nthK_H, ↓nthH_zero, ↓nthH_succ, ↓aw_seq, ↓aw_block, ↓aw_skip, ↓aw_reg, ↓aw_draw, ↓Qseq_n, ↓Qblk_n, ↓ops_nil, ↓ops_cons, ↓eval_tmp, ↓eval_int, ↓eval_func, ↓put_some, ↓put_none, ↓iK_i, ↓dK_d, ↓ev_move, ↓ev_load, ↓ev_fa, ↓ev_ia, ↓binE_i, ↓bi_add, ↓in_i64, ↓ldK_q, ↓ldK_p, ↓ldK_e, ↓faK_p, ↓iaK_l, ↓iaK_o, ↓op_move, ↓op_load, ↓op_bin, ↓op_ia, ↓op_alloc, ↓op_store, isD_d, ↓fnK_f, ↓callKQ_H, ↓allT_nil, ↓allT_cons, ↓td_d, ↓draw_H, ↓h_cons, ↓ldH_t, ↓ldH_n, ↓q_call, ↓q_move, ↓q_load, ↓q_fa, ↓q_ia, ↓il_move, ↓il_load, ↓il_fa, ↓il_ia, ↓il_call, ↓il_store, ↓addBox_mk, ↓setBox_mk, ↓setRow_mk, ↓st_bx, ↓row_sz, ↓row_xs, ↓cells_c, ↓cells_s, ↓vcells_s, ↓one_i, ↓vone_d, constV_a, ↓st_p, ↓st_e, ↓ty3, ↓sl22, ↓ty41, ↓zb41, ↓fd41_0, ↓fd41_1, ↓sl99, ↓ty102, List.getD_cons_zero, List.getD_cons_succ, List.set_cons_zero, List.set_cons_succ, List.nil_append, List.append_nil, List.map_cons, List.map_nil, List.length_cons, List.length_nil, List.all_cons, List.all_nil, Bool.true_and, Bool.and_self, Bool.true_or, Nat.reduceAdd, Nat.reduceSub, Nat.reduceMul, Nat.zero_add, Nat.add_zero, Int.toNat_natCast, evK_go, reduceIte, decide_true, Nat.reduceEqDiff, Nat.reduceLT, and_self, true_and, Int.zero_add, List.take_succ_cons, List.take_nil, Int.ofNat_lt, Int.natCast_nonneg]
      obtain ⟨h2, h3⟩ := hp _ (getD_mem h)
      have h4 := outS_len n (l.take k)
      have h5 : (outS n (l.take k)).getD (l.getD k default).1 default < 2 ^ 64 := outS_lt n (l.take k) (fun p hq => (hp p (List.mem_of_mem_take hq)).2) _ (getD_mem (by rw [h4]; exact h2))
      refine ⟨by omega, OrH.l ⟨DrawH.of follows_mixed (by kernel_rfl), h2, by rw [h4]; exact h2, OrH.l (OrH.l ⟨⟨h5, h3⟩, h2, ⟨by omega, by omega⟩, k + 1, by omega, by omega, ?_⟩)⟩⟩
      refine Wkn.of [] [some 0] ?_
      simp (implicitDefEqProofs := false) (dsimp := false) only [List.getD_cons_zero, List.set_cons_zero, List.set_cons_succ, Bool.and_true, Bool.true_and, Bool.and_self, Nat.reduceAdd, Nat.reduceSub, Nat.reduceMul, List.replicate, evK_go, reduceIte, Nat.reduceEqDiff, Nat.reduceLT, and_self, true_and, and_true, List.foldl_cons, List.foldl_nil, Int.cast_ofNat_Int, Int.natCast_add, slots, wkL_nil, wkL_cons, wkB_nil, wkR_nil, wkR_some, wkV_j, wkV_d, wkV_o, frz_d, oK_zs, reduceCtorEq, Option.some.injEq]
      rw [take_succ_getD h, outS_snoc, outF, List.map_set]
    · obtain rfl : k = l.length := by omega
      simp (implicitDefEqProofs := false) (dsimp := false) only [↓optK_some, ↓rwK_mk_, ↓aw_seq, ↓aw_exit, ↓aw_ret, ↓aw_reg, ↓Qseq_n, ↓Qseq_x, ↓Qblk_x, ↓ops_nil, ↓ops_cons, ↓eval_tmp, ↓put_some, ↓op_move, ↓op_assign, ↓row_sz, ↓row_xs, ↓Qrow_r, ↓rowK_o, List.getD_cons_zero, List.getD_cons_succ, List.set_cons_zero, List.set_cons_succ, Bool.true_and, Nat.reduceAdd, Nat.reduceSub, Nat.reduceMul, evK_go, reduceIte, decide_false, Nat.reduceEqDiff, Nat.reduceLT, true_and, Nat.lt_irrefl]
      simp (implicitDefEqProofs := false) (dsimp := false) only [List.take_length]
      have h4 := outS_len n l
      exact List.take_of_length_le (by simp [h4])
theorem out_call (n : Nat) (l : List (Nat × Nat)) (pure : Bool) (σ : St) (dst : Option Tmp) (K : St → Prop) : CallH Tryd.prog 81 [I .i64 (n : Int), .l (l.map lnN)] pure σ dst (.mk : Hid K) = OrH ((n ≤ 64 ∧ l.length < 2 ^ 62 ∧ ∀ p ∈ l, p.1 < n ∧ p.2 < 64) ∧ (pure || Res.flat (.row 1 ((outS n l).map U))) = true ∧ evK ((σ.addRow ⟨1, (outS n l).map U⟩).put dst (.o σ.rw.length 0 (List.length ((outS n l).map U)))) (.mk : Hid K)) (.mk : Hid (CallH Tryd.prog 81 [I .i64 (n : Int), .l (l.map lnN)] pure σ dst (.mk : Hid K))) := CallH.eqR (fun h => out_spec n l h) pure σ dst K
theorem out_callD (n : Nat) (l : List (Nat × Nat)) (pure : Bool) (σ : St) (dst : Option Tmp) (K : St → Prop) : CallH Tryd.prog 81 [I .i64 (n : Int), .l (l.map lnN)] pure σ dst (.mk : Hid K) = OrH ((n ≤ 64 ∧ l.length < 2 ^ 62 ∧ ∀ p ∈ l, p.1 < n ∧ p.2 < 64) ∧ (pure || D.flat (.l ((outS n l).map U))) = true ∧ evK (σ.put dst (.d (.l ((outS n l).map U)))) (.mk : Hid K)) (.mk : Hid (CallH Tryd.prog 81 [I .i64 (n : Int), .l (l.map lnN)] pure σ dst (.mk : Hid K))) := CallH.eq (fun h => ((fun h => out_spec n l h) h).data) pure σ dst K
theorem out_callDQ (n : Nat) (l : List (Nat × Nat)) (pure : Bool) (C : V → Prop) : CallQ Tryd.prog 81 [I .i64 (n : Int), .l (l.map lnN)] pure (.mk : Hid C) = OrH ((n ≤ 64 ∧ l.length < 2 ^ 62 ∧ ∀ p ∈ l, p.1 < n ∧ p.2 < 64) ∧ (pure || D.flat (.l ((outS n l).map U))) = true ∧ evK (V.d (.l ((outS n l).map U))) (.mk : Hid C)) (.mk : Hid (CallQ Tryd.prog 81 [I .i64 (n : Int), .l (l.map lnN)] pure (.mk : Hid C))) := CallQ.eq (fun h => ((fun h => out_spec n l h) h).data) pure C
end Go.Proofs

namespace Go.Proofs
open Go.Aw
set_option linter.unusedSimpArgs false
set_option maxRecDepth 10000
/-- Numbers as data. -/
def nD (n : Nat) : D := I .i64 (n : Int)
theorem with0_spec (i : Nat) (hpre : i < 64) : FnD Tryd.prog 96 [I .u64 0, I .i64 (i : Int)] (U (2 ^ i)) := by
  have h := with_spec 0 i ⟨by decide, hpre⟩
  rw [Nat.zero_or] at h
  exact h
theorem with0_call (i : Nat) (pure : Bool) (σ : St) (dst : Option Tmp) (K : St → Prop) : CallH Tryd.prog 96 [I .u64 0, I .i64 (i : Int)] pure σ dst (.mk : Hid K) = OrH ((i < 64) ∧ (pure || D.flat (U (2 ^ i))) = true ∧ evK (σ.put dst (.d (U (2 ^ i)))) (.mk : Hid K)) (.mk : Hid (CallH Tryd.prog 96 [I .u64 0, I .i64 (i : Int)] pure σ dst (.mk : Hid K))) := CallH.eq (with0_spec i) pure σ dst K
theorem with0_callQ (i : Nat) (pure : Bool) (C : V → Prop) : CallQ Tryd.prog 96 [I .u64 0, I .i64 (i : Int)] pure (.mk : Hid C) = OrH ((i < 64) ∧ (pure || D.flat (U (2 ^ i))) = true ∧ evK (V.d (U (2 ^ i))) (.mk : Hid C)) (.mk : Hid (CallQ Tryd.prog 96 [I .u64 0, I .i64 (i : Int)] pure (.mk : Hid C))) := CallQ.eq (with0_spec i) pure C
/-- The loop's state: seen, the row's head, what is to do. -/
structure RS where
  s : Nat
  pre : List Nat
  q : List Nat
structure RI (a w : Nat) (next : List Nat) (st : RS) : Prop where
  lt : st.s < 2 ^ 64
  start : st.s.testBit a = true
  ql : st.q.length ≤ cnt st.s
  sound : ∀ j, st.s.testBit j = true → Rch next w a j
  inq : ∀ j ∈ st.q, st.s.testBit j = true
  done : ∀ b, st.s.testBit b = true → b ∉ st.q → ∀ c, (next.getD b default).testBit c = true → w.testBit c = true → st.s.testBit c = true
set_option maxHeartbeats 1000000 in
theorem reach_spec (a w : Nat) (next : List Nat) (hpre : a < next.length ∧ next.length ≤ 64 ∧ w < 2 ^ next.length ∧ (∀ x ∈ next, x < 2 ^ 64)) : FnD Tryd.prog 91 [I .i64 (a : Int), .l (next.map U), U w] (U (reach next w a)) := by
  obtain ⟨ha, hlen, hw, hn⟩ := hpre
  have ha' : a < 64 := by omega
  have hw' : w < 2 ^ 64 := Nat.lt_of_lt_of_le hw (Nat.pow_le_pow_right (by omega) hlen)
  refine FnD.go Tryd.func91 rfl rfl Tryd.results91 Tryd.ntmps91 ?_
  simp (implicitDefEqProofs := false) (dsimp := false) only [with0_call, ha', ↓aw_seq, ↓aw_block, ↓aw_loop, ↓aw_reg, ↓Qseq_n, ↓ops_nil, ↓ops_cons, ↓eval_tmp, ↓eval_int, ↓eval_func, ↓put_some, ↓put_none, ↓dK_d, ↓op_move, ↓op_assign, ↓op_call, ↓op_alloc, ↓op_store, isD_d, ↓fnK_f, ↓call_H, ↓callK_H, ↓allT_nil, ↓allT_cons, ↓allD_nil, ↓allD_cons, ↓td_d, ↓addBox_mk, ↓addRow_mk, ↓setBox_mk, ↓st_bx, ↓st_rw, ↓cells_c, ↓vcells_c, ↓vcells_nl, ↓vcells_o, ↓one_i, ↓vone_d, ↓vone_o, constV_i, constV_n, ↓st_p, ↓bs_, ↓op_bs, ↓bsL_t, ↓stored_mk, ↓sl_nil, ↓sl_cons, ↓st_store_t, ↓sT_move, ↓sT_bs, ↓sT_alloc, ↓beq_some, ↓vsz_int, ↓inO_1, ↓fm_nil, ↓fm_cons, ↓ty3, ↓zb3, ↓ty24, ↓sl24, ↓zb24, ↓ty102, ↓zb102, List.getD_cons_zero, List.getD_cons_succ, List.set_cons_zero, List.set_cons_succ, List.cons_append, List.nil_append, List.append_nil, List.map_cons, List.map_nil, List.length_cons, List.length_nil, List.all_cons, List.all_nil, Bool.true_and, Bool.and_self, Bool.or_true, Bool.true_or, Bool.or_false, Nat.reduceAdd, Nat.reduceSub, Nat.reduceMul, Nat.zero_add, List.replicate, evK_go, reduceIte, decide_true, Nat.reduceEqDiff, Nat.reduceLT, and_self, true_and, Int.zero_add]
  refine OrH.l (OrH.l ⟨by omega, ?_⟩)
  refine loopW (fun st : RS => { tm := slots 42 [(1, .d (.l (next.map U))), (2, .d (U w)), (7, .p 0 0), (8, .p 1 0)], bx := [.d (U st.s), .o 0 st.pre.length st.q.length], rw := [some ⟨1, (st.pre ++ st.q).map nD⟩] })
    (RI a w next) (fun st => 2 * (64 - cnt st.s) + st.q.length) ⟨2 ^ a, [], [a]⟩ ?_ ?_ ?_
  · refine ⟨Nat.pow_lt_pow_right (by omega) ha', Nat.testBit_two_pow_self, ?_, fun j hj => ?_, fun j hj => ?_, fun x hx hxq c h1 h2 => ?_⟩
    · exact List.countP_pos_iff.2 ⟨a, by simpa using ha', Nat.testBit_two_pow_self⟩
    · by_cases hj' : j = a
      · subst hj'; exact .refl
      · simp only at hj; rw [Nat.testBit_two_pow_of_ne (fun e => hj' e.symm)] at hj; cases hj
    · simp at hj; subst hj; exact Nat.testBit_two_pow_self
    · by_cases hj' : x = a
      · exact absurd (by simp [hj']) hxq
      · simp only at hx; rw [Nat.testBit_two_pow_of_ne (fun e => hj' e.symm)] at hx; cases hx
  · refine Wkn.of [0, 1] [some 0] ?_
    simp (implicitDefEqProofs := false) (dsimp := false) only [nD, ↓vcells_c, ↓vcells_o, List.getD_cons_zero, List.getD_cons_succ, List.set_cons_zero, List.set_cons_succ, List.nil_append, List.map_cons, List.map_nil, List.length_cons, List.length_nil, Bool.and_self, Nat.reduceAdd, Nat.reduceSub, Nat.reduceMul, Nat.zero_add, List.replicate, evK_go, reduceIte, Nat.reduceEqDiff, Nat.reduceLT, and_self, Int.zero_add, List.foldl_cons, List.foldl_nil, slots, wkL_nil, wkL_cons, wkB_nil, wkB_cons, wkR_nil, wkR_some, wkV_j, wkV_d, wkV_o, wkV_p, frz_d, oK_zs, pK_z, pK_s, reduceCtorEq]
  · rintro ⟨s, pre, q⟩ hI
    simp (implicitDefEqProofs := false) (dsimp := false) only [slots, ↓optK_some, ↓rwK_mk_, ↓nthK_H, ↓nthH_zero, ↓aw_cond, ↓aw_seq, ↓aw_reg, ↓Qseq_n, ↓ops_nil, ↓ops_cons, ↓eval_tmp, ↓eval_int, ↓put_some, ↓bK_b, ↓lenK_o, ↓binE_i, ↓bi_gtr, ↓ldK_p, ↓op_load, ↓op_bin, ↓op_len, ↓vcells_o, ↓ty24, ↓sl24, List.getD_cons_zero, List.getD_cons_succ, List.set_cons_zero, List.set_cons_succ, Nat.reduceAdd, Nat.reduceSub, Nat.reduceMul, List.replicate, evK_go, reduceIte, Nat.reduceEqDiff, Nat.reduceLT, List.foldl_cons, List.foldl_nil]
    refine cdK_dec (fun h => ?_) (fun h => ?_)
    · cases q with
      | nil => simp at h
      | cons b q =>
        simp (implicitDefEqProofs := false) (dsimp := false) only [List.length_cons, List.map_append, List.map_cons, nD, ↓optK_some, ↓rwK_mk_, ↓atK_H, ↓atH_map, ↓atH_appmap, ↓nthK_H, ↓nthH_zero, ↓aw_seq, ↓aw_block, ↓aw_skip, ↓aw_reg, ↓aw_draw, ↓Qseq_n, ↓ops_nil, ↓ops_cons, ↓eval_tmp, ↓eval_int, ↓eval_func, ↓put_some, ↓put_none, ↓iK_i, ↓ev_move, ↓ev_load, ↓ev_bin, ↓ev_ia, ↓optI_none, ↓optI_some, ↓binE_i, ↓bi_and, ↓bi_andNot, ↓ldK_q, ↓ldK_p, ↓ldK_e, ↓iaK_l, ↓iaK_o, ↓sliK_o, ↓op_assign, ↓op_load, ↓op_ia, ↓op_slice, ↓op_store, isD_d, ↓fnK_f, ↓callKQ_H, ↓allT_nil, ↓allT_cons, ↓td_d, ↓draw_H, ↓h_cons, ↓ldH_n, ↓q_call, ↓q_move, ↓q_load, ↓q_bin, ↓q_ia, ↓il_move, ↓il_load, ↓il_bin, ↓il_ia, ↓il_call, ↓setBox_mk, ↓st_bx, ↓row_sz, ↓row_xs, ↓cells_c, ↓vcells_c, ↓vcells_o, ↓vone_o, ↓st_p, ↓hd_cons, ↓ty3, ↓ty24, ↓sl24, ↓sl99, ↓ty102, List.getD_cons_zero, List.getD_cons_succ, List.set_cons_zero, List.set_cons_succ, List.append_nil, List.map_cons, List.length_cons, List.length_nil, List.all_cons, List.all_nil, Bool.true_and, Bool.and_self, Nat.reduceAdd, Nat.reduceSub, Nat.reduceMul, Nat.zero_add, Nat.add_zero, Int.toNat_natCast, Int.toNat_zero, Int.toNat_one, evK_go, reduceIte, Nat.reduceEqDiff, Nat.reduceLT, and_self, true_and, Option.getD_none, Option.getD_some, Int.zero_add, Int.cast_ofNat_Int, Int.natCast_add, Int.natCast_nonneg]
        refine ⟨⟨by omega, by omega⟩, ⟨by omega, by omega⟩, ?_⟩
        obtain ⟨hI1, hI2, hI6, hI3, hI4, hI5⟩ := hI
        simp (implicitDefEqProofs := false) (dsimp := false) only [List.length_cons] at hI6
        have hc64 := cnt_le s
        simp only at hI1 hI2 hI3 hI4 hI5
        have hsb : s.testBit b = true := hI4 b (by simp)
        have hb : b < next.length := by
          rcases hI3 b hsb with _ | ⟨_, _, h2⟩
          · exact ha
          · exact low_lt hw h2
        have hnb : next.getD b default < 2 ^ 64 := hn _ (getD_mem hb)
        have hand : next.getD b default &&& w < 2 ^ 64 := Nat.lt_of_le_of_lt Nat.and_le_left hnb
        simp (implicitDefEqProofs := false) (dsimp := false) only [each_callQ, hb, hnb, hw', hand, hI1, ↓aw_block, ↓aw_rng, ↓Qseq_n, ↓put_some, ↓h_nil, List.set_cons_zero, List.set_cons_succ, Bool.true_and, Bool.and_self, Bool.true_or, Nat.reduceAdd, Nat.reduceSub, Nat.reduceMul, evK_go, reduceIte, Nat.reduceEqDiff, Nat.reduceLT, and_self, true_and]
        refine OrH.l ⟨DrawH.of follows_mixed (by kernel_rfl), OrH.l (OrH.l ?_)⟩
        have hd : dif (next.getD b default &&& w) s < 2 ^ 64 := dif_lt hand
        have e1 : ((q.length : Int) + 1 - 1).toNat = q.length := by omega
        refine rangeW (slots 42 [(1, .d (.l (next.map U))), (2, .d (U w)), (7, .p 0 0), (8, .p 1 0), (31, .d (.f (.func 111) [.q [U (dif (next.getD b default &&& w) s)]]))])
          (fun st : RS => [.d (U st.s), .o 0 st.pre.length st.q.length]) (fun st : RS => [some ⟨1, (st.pre ++ st.q).map nD⟩]) (fun ys st => ∃ P : List Nat, ys = P.map Int.ofNat ∧ st.s = addAll s P ∧ st.q = q ++ P) ⟨s, pre ++ [b], q⟩
          (by simp [slots]) (each_iter _ hd) ?_ ⟨[], rfl, rfl, by simp⟩ ?_ ?_ ?_
        · simp (implicitDefEqProofs := false) (dsimp := false) only [slots, ↓eval_tmp, List.getD_cons_zero, List.getD_cons_succ, List.set_cons_zero, List.set_cons_succ, Nat.reduceAdd, Nat.reduceSub, Nat.reduceMul, List.replicate, evK_go, reduceIte, Nat.reduceEqDiff, Nat.reduceLT, List.foldl_cons, List.foldl_nil]
        · refine Wkn.of [0, 1] [some 0] ?_
          simp (implicitDefEqProofs := false) (dsimp := false) only [e1, nD, List.map_append, List.length_append, List.append_assoc, ↓vcells_c, ↓vcells_o, List.getD_cons_zero, List.getD_cons_succ, List.set_cons_zero, List.set_cons_succ, List.cons_append, List.nil_append, List.map_cons, List.length_cons, List.length_nil, Bool.and_self, Nat.reduceAdd, Nat.reduceSub, Nat.reduceMul, Nat.zero_add, List.replicate, evK_go, reduceIte, Nat.reduceEqDiff, Nat.reduceLT, and_self, Int.zero_add, List.foldl_cons, List.foldl_nil, slots, wkL_nil, wkL_cons, wkB_nil, wkB_cons, wkR_nil, wkR_some, wkV_j, wkV_d, wkV_o, wkV_p, frz_d, oK_zs, pK_z, pK_s, reduceCtorEq]
        · rintro ys x ⟨s', pre', q'⟩ hpx ⟨P, rfl, hs', hq'⟩
          obtain ⟨P', c, hP, rfl, hc⟩ := prefix_map hpx
          obtain rfl : P = P' := ofNat_inj hP
          simp only at hs' hq'
          subst hs' hq'
          simp (implicitDefEqProofs := false) (dsimp := false) only [slots, with_call, ↓optK_some, ↓rwK_mk_, ↓nthK_H, ↓nthH_zero, ↓aw_seq, ↓aw_block, ↓aw_reg, ↓Qseq_n, ↓Qblk_n, ↓ops_nil, ↓ops_cons, ↓eval_tmp, ↓eval_func, ↓put_some, ↓put_none, ↓dK_d, ↓ldK_p, ↓op_move, ↓op_assign, ↓op_load, ↓op_append, ↓op_call, ↓op_store, isD_d, ↓fnK_f, ↓call_H, ↓callK_H, ↓allT_nil, ↓allT_cons, ↓allD_nil, ↓allD_cons, ↓td_d, ↓setBox_mk, ↓app_mk, ↓st_bx, ↓row_sz, ↓row_xs, kill_d, kill_j, kill_p, kill_o, ↓cells_c, ↓vcells_c, ↓vcells_j, ↓vcells_o, ↓one_i, ↓vone_d, ↓vone_o, ↓st_p, ↓ap_, ↓ap_o, ↓src_l, ↓bs_, ↓op_bs, ↓bsL_f, ↓stored_mk, ↓sl_nil, ↓sl_cons, ↓st_store_t, ↓sT_move, ↓sT_load, ↓sT_bs, ↓sT_call, ↓beq_some, ↓vsz_int, ↓inO_1, ↓fm_nil, ↓fm_cons, ↓Qn_n, ↓Qrd_n, ↓back_mk, ↓ty3, ↓zb3, ↓ty24, ↓sl24, ↓ty102, List.getD_cons_zero, List.getD_cons_succ, List.set_cons_zero, List.set_cons_succ, List.append_nil, List.map_cons, List.map_nil, List.length_cons, List.length_nil, List.length_map, List.all_cons, List.all_nil, Bool.true_and, Bool.and_self, Bool.true_or, Bool.or_false, Nat.reduceAdd, Nat.reduceSub, Nat.reduceMul, Nat.zero_add, List.replicate, evK_go, reduceIte, decide_false, Nat.reduceEqDiff, Nat.reduceLT, and_self, true_and, Int.zero_add, List.foldl_cons, List.foldl_nil]
          have hPl : P.length + 1 ≤ 64 := by
            have := hc.length_le
            have := pts_len (dif (next.getD b default &&& w) s)
            simp (implicitDefEqProofs := false) (dsimp := false) only [List.length_append, List.length_cons, List.length_nil] at *
            omega
          have hPm : ∀ x ∈ P, x < 64 := fun x hx => ((pts_mem _ _).1 (hc.subset (by simp [hx]))).1
          have hc' : c < 64 := ((pts_mem _ _).1 (hc.subset (by simp))).1
          refine OrH.l (OrH.l ⟨⟨addAll_lt s P hI1 hPm, hc'⟩, by omega, ⟨by simp, by simp, by simp (implicitDefEqProofs := false) (dsimp := false) only [List.length_append]; omega, by simp (implicitDefEqProofs := false) (dsimp := false) only [List.length_append]; omega⟩, ⟨addAll s (P ++ [c]), [], q ++ (P ++ [c])⟩, ⟨P ++ [c], by simp, rfl, rfl⟩, ?_⟩)
          refine Wkn.of [0, 1] [some 0] ?_
          rw [List.map_append, drop_appmap]
          simp (implicitDefEqProofs := false) (dsimp := false) only [addAll_snoc, nD, List.map_append, List.length_append, List.append_assoc, Nat.add_assoc, ↓vcells_c, ↓vcells_o, List.getD_cons_zero, List.getD_cons_succ, List.nil_append, List.map_cons, List.map_nil, List.length_cons, List.length_nil, Bool.and_self, Nat.reduceAdd, Nat.reduceSub, Nat.reduceMul, Nat.zero_add, evK_go, reduceIte, Nat.reduceEqDiff, Nat.reduceLT, and_self, Int.zero_add, slots, wkL_nil, wkL_cons, wkB_nil, wkB_cons, wkR_nil, wkR_some, wkV_j, wkV_d, wkV_o, wkV_p, frz_d, oK_zs, pK_z, pK_s, reduceCtorEq]
        · rintro ⟨s', pre', q'⟩ ⟨P, hP, hs', hq'⟩
          obtain rfl : pts (dif (next.getD b default &&& w) s) = P := ofNat_inj hP
          simp only at hs' hq'
          subst hs' hq'
          simp (implicitDefEqProofs := false) (dsimp := false) only [slots, ↓nthK_H, ↓nthH_zero, ↓aw_seq, ↓aw_reg, ↓Qseq_n, ↓Qblk_n, ↓ops_nil, ↓ops_cons, ↓eval_tmp, ↓put_some, ↓put_none, ↓ldK_p, ↓op_load, ↓op_alloc, ↓op_store, ↓addBox_mk, ↓setBox_mk, ↓st_bx, ↓vcells_nl, ↓vcells_o, ↓vone_o, constV_n, ↓st_p, ↓ty24, ↓zb24, List.getD_cons_zero, List.getD_cons_succ, List.set_cons_zero, List.set_cons_succ, List.cons_append, List.nil_append, List.length_cons, List.length_nil, List.all_cons, List.all_nil, Bool.true_and, Bool.and_self, Nat.reduceAdd, Nat.reduceSub, Nat.reduceMul, Nat.zero_add, List.replicate, evK_go, reduceIte, Nat.reduceEqDiff, Nat.reduceLT, and_self, true_and, Int.zero_add, List.foldl_cons, List.foldl_nil]
          have hdb : ∀ j, (dif (next.getD b default &&& w) s).testBit j = true ↔ ((next.getD b default).testBit j = true ∧ w.testBit j = true) ∧ s.testBit j = false := fun j => by
            rw [dif_bit, Nat.testBit_and]
            cases (next.getD b default).testBit j <;> cases w.testBit j <;> cases s.testBit j <;> simp
          have hca := cnt_add s (dif (next.getD b default &&& w) s) (fun j hj => ((hdb j).1 hj).2)
          refine ⟨⟨addAll s (pts (dif (next.getD b default &&& w) s)), pre', q ++ pts (dif (next.getD b default &&& w) s)⟩, ⟨?_, ?_, ?_, ?_, ?_, ?_⟩, ?_, ?_⟩
          · exact addAll_lt _ _ hI1 (fun c hc => ((pts_mem _ _).1 hc).1)
          · exact (addAll_bit _ _ _).2 (.inl hI2)
          · simp (implicitDefEqProofs := false) (dsimp := false) only [List.length_append]; omega
          · intro j hj
            rcases (addAll_bit _ _ _).1 hj with h1 | h1
            · exact hI3 j h1
            · have := (hdb j).1 ((pts_mem _ _).1 h1).2
              exact .step (hI3 b hsb) this.1.1 this.1.2
          · intro j hj
            rcases List.mem_append.1 hj with h1 | h1
            · exact (addAll_bit _ _ _).2 (.inl (hI4 j (by simp [h1])))
            · exact (addAll_bit _ _ _).2 (.inr h1)
          · intro x hx hxq c h1 h2
            have hxq1 : x ∉ q := fun h' => hxq (List.mem_append_left _ h')
            have hxq2 : x ∉ pts (dif (next.getD b default &&& w) s) := fun h' => hxq (List.mem_append_right _ h')
            have hxs : s.testBit x = true := ((addAll_bit _ _ _).1 hx).resolve_right hxq2
            refine (addAll_bit _ _ _).2 ?_
            by_cases hxb : x = b
            · subst hxb
              cases h3 : s.testBit c with
              | true => exact .inl rfl
              | false => exact .inr ((pts_mem _ _).2 ⟨Nat.lt_of_lt_of_le (low_lt hw h2) hlen, (hdb c).2 ⟨⟨h1, h2⟩, h3⟩⟩)
            · exact .inl (hI5 x hxs (by simp [hxb, hxq1]) c h1 h2)
          · have := cnt_le (addAll s (pts (dif (next.getD b default &&& w) s)))
            simp (implicitDefEqProofs := false) (dsimp := false) only [List.length_append]; omega
          · refine Wkn.of [0, 2] [some 0] ?_
            simp (implicitDefEqProofs := false) (dsimp := false) only [List.map_append, ↓vcells_c, ↓vcells_o, List.getD_cons_zero, List.getD_cons_succ, List.length_cons, List.length_nil, Bool.and_self, Nat.reduceAdd, Nat.reduceSub, Nat.reduceMul, Nat.zero_add, evK_go, reduceIte, Nat.reduceEqDiff, Nat.reduceLT, and_self, Int.zero_add, slots, wkL_nil, wkL_cons, wkB_nil, wkB_cons, wkR_nil, wkR_some, wkV_j, wkV_d, wkV_o, wkV_p, frz_d, oK_zs, pK_z, pK_s, reduceCtorEq]
    · cases q with
      | cons b q => simp at h
      | nil =>
        obtain ⟨hI1, hI2, hI6, hI3, hI4, hI5⟩ := hI
        simp only at hI1 hI2 hI3 hI4 hI5
        have : s = reach next w a := reach_eq hn ha' fun j => ⟨hI3 j, fun h => by
          induction h with
          | refl => exact hI2
          | step h h1 h2 ih => exact hI5 _ ih (by simp) _ h1 h2⟩
        rw [← this]
        simp (implicitDefEqProofs := false) (dsimp := false) only [↓nthK_H, ↓nthH_zero, ↓aw_seq, ↓aw_exit, ↓aw_ret, ↓aw_reg, ↓Qseq_n, ↓Qseq_x, ↓Qblk_x, ↓Qret_r, ↓ops_nil, ↓ops_cons, ↓eval_tmp, ↓put_some, ↓ldK_p, ↓op_assign, ↓op_load, ↓td_d, ↓ret_1, ↓vcells_c, ↓ty102, List.getD_cons_zero, List.getD_cons_succ, List.set_cons_zero, List.set_cons_succ, List.append_nil, List.length_nil, Nat.reduceAdd, Nat.reduceSub, Nat.reduceMul, evK_go, reduceIte, Nat.reduceEqDiff, Nat.reduceLT, Int.cast_ofNat_Int]
theorem reach_call (a w : Nat) (next : List Nat) (pure : Bool) (σ : St) (dst : Option Tmp) (K : St → Prop) : CallH Tryd.prog 91 [I .i64 (a : Int), .l (next.map U), U w] pure σ dst (.mk : Hid K) = OrH ((a < next.length ∧ next.length ≤ 64 ∧ w < 2 ^ next.length ∧ (∀ x ∈ next, x < 2 ^ 64)) ∧ (pure || D.flat (U (reach next w a))) = true ∧ evK (σ.put dst (.d (U (reach next w a)))) (.mk : Hid K)) (.mk : Hid (CallH Tryd.prog 91 [I .i64 (a : Int), .l (next.map U), U w] pure σ dst (.mk : Hid K))) := CallH.eq (reach_spec a w next) pure σ dst K
theorem reach_callQ (a w : Nat) (next : List Nat) (pure : Bool) (C : V → Prop) : CallQ Tryd.prog 91 [I .i64 (a : Int), .l (next.map U), U w] pure (.mk : Hid C) = OrH ((a < next.length ∧ next.length ≤ 64 ∧ w < 2 ^ next.length ∧ (∀ x ∈ next, x < 2 ^ 64)) ∧ (pure || D.flat (U (reach next w a))) = true ∧ evK (V.d (U (reach next w a))) (.mk : Hid C)) (.mk : Hid (CallQ Tryd.prog 91 [I .i64 (a : Int), .l (next.map U), U w] pure (.mk : Hid C))) := CallQ.eq (reach_spec a w next) pure C
end Go.Proofs

namespace Go.Proofs
open Go.Aw
set_option linter.unusedSimpArgs false
set_option maxRecDepth 10000
/-! From integers to points. -/
def natP (p : Int × Int) : Nat × Nat := (p.1.toNat, p.2.toNat)
def natL (l : List (Int × Int)) : List (Nat × Nat) := l.map natP
theorem firstErr_zero {f : Int × Int → Int} {l : List (Int × Int)} (h : firstErr f l = 0) : ∀ p ∈ l, f p = 0 := by
  induction l with
  | nil => intro p hp; cases hp
  | cons q l ih =>
    intro p hp
    by_cases hq : f q = 0
    · have h2 : firstErr f l = 0 := by simpa [firstErr, hq] using h
      rcases List.mem_cons.1 hp with rfl | hp
      · exact hq
      · exact ih h2 p hp
    · simp [firstErr, hq] at h
structure Ok (n : Int) (l : List (Int × Int)) : Prop where
  n0 : n = (n.toNat : Int)
  lo : 1 ≤ n.toNat
  hi : n.toNat ≤ 8
  len : l.length ≤ 24
  rng : ∀ p ∈ l, 0 ≤ p.1 ∧ 0 ≤ p.2
  good : Good n.toNat (natL l)
  ne : ∀ p ∈ natL l, p.1 ≠ p.2
theorem chk_ok {n : Int} {l : List (Int × Int)} (h : chk n l = 0) : Ok n l := by
  unfold chk at h
  split at h
  · cases h
  · rename_i hn
    split at h
    · cases h
    · rename_i hl
      have hn' : 1 ≤ n ∧ n ≤ 8 := by simpa [inB] using hn
      have hp : ∀ p ∈ l, (0 ≤ p.1 ∧ p.1 ≤ n - 1) ∧ (0 ≤ p.2 ∧ p.2 ≤ n - 1) ∧ p.1 ≠ p.2 := fun p hp => by
        have := firstErr_zero h p hp
        unfold lineErr at this
        split at this
        · cases this
        · rename_i h1
          split at this
          · cases this
          · rename_i h2
            simp [inB] at h1
            exact ⟨⟨h1.1, h1.2.1⟩, h1.2.2, h2⟩
      refine ⟨by omega, by omega, by omega, by omega, fun p h' => ⟨(hp p h').1.1, (hp p h').2.1.1⟩, fun p h' => ?_, fun p h' => ?_⟩
      · obtain ⟨q, hq, rfl⟩ := List.mem_map.1 h'
        have := hp q hq
        simp (implicitDefEqProofs := false) (dsimp := false) only [natP]; omega
      · obtain ⟨q, hq, rfl⟩ := List.mem_map.1 h'
        have := hp q hq
        simp (implicitDefEqProofs := false) (dsimp := false) only [natP]; omega
theorem lnD_nat {l : List (Int × Int)} (h : ∀ p ∈ l, 0 ≤ p.1 ∧ 0 ≤ p.2) : l.map lnD = (natL l).map lnN := by
  unfold natL
  rw [List.map_map]
  refine List.map_congr_left fun p hp => ?_
  have := h p hp
  show D.s _ = D.s _
  simp (implicitDefEqProofs := false) (dsimp := false) only [natP, Int.toNat_of_nonneg this.1, Int.toNat_of_nonneg this.2]
theorem natL_len (l : List (Int × Int)) : (natL l).length = l.length := by simp [natL]
theorem Ok.out {n : Int} {l : List (Int × Int)} (h : Ok n l) : n.toNat ≤ 64 ∧ (natL l).length < 2 ^ 62 ∧ ∀ p ∈ natL l, p.1 < n.toNat ∧ p.2 < 64 := by
  refine ⟨by have := h.hi; omega, by rw [natL_len]; have := h.len; omega, fun p hp => ?_⟩
  have := h.good p hp
  have := h.hi
  omega
theorem gcheck_spec (n : Int) (l : List (Int × Int)) (hpre : l.length < 2 ^ 62) : FnD Tryd.prog 80 [I .i64 n, .l (l.map lnD)] (erD (chk n l)) := by
  refine FnD.go Tryd.func80 rfl rfl Tryd.results80 Tryd.ntmps80 ?_
  simp (implicitDefEqProofs := false) (dsimp := false) only [↓aw_seq, ↓aw_reg, ↓Qseq_n, ↓ops_nil, ↓ops_cons, ↓eval_tmp, ↓eval_func, ↓put_some, ↓op_move, ↓op_assign, ↓op_call, isD_d, ↓fnK_f, ↓call_H, ↓callK_H, ↓allT_nil, ↓allT_cons, ↓td_d, List.getD_cons_zero, List.getD_cons_succ, List.set_cons_zero, List.set_cons_succ, List.cons_append, List.nil_append, List.append_nil, List.map_cons, List.map_nil, List.length_cons, List.length_nil, List.all_cons, List.all_nil, Bool.and_self, Nat.reduceAdd, Nat.reduceSub, Nat.reduceMul, Nat.zero_add, List.replicate, evK_go, reduceIte, Nat.reduceEqDiff, Nat.reduceLT, and_self, Int.zero_add]
  simp (implicitDefEqProofs := false) (dsimp := false) only [check_call, ↓aw_ret, ↓Qseq_n, ↓Qret_r, ↓ops_nil, ↓ops_cons, ↓eval_tmp, ↓put_some, ↓op_assign, ↓td_d, ↓ret_1, List.getD_cons_zero, List.getD_cons_succ, List.set_cons_zero, List.set_cons_succ, Bool.and_true, Bool.and_self, Bool.true_or, Nat.reduceAdd, Nat.reduceSub, Nat.reduceMul, evK_go, reduceIte, Nat.reduceEqDiff, Nat.reduceLT, and_self, and_true]
  exact OrH.l (OrH.l hpre)
theorem gcheck_call (n : Int) (l : List (Int × Int)) (pure : Bool) (σ : St) (dst : Option Tmp) (K : St → Prop) : CallH Tryd.prog 80 [I .i64 n, .l (l.map lnD)] pure σ dst (.mk : Hid K) = OrH ((l.length < 2 ^ 62) ∧ (pure || D.flat (erD (chk n l))) = true ∧ evK (σ.put dst (.d (erD (chk n l)))) (.mk : Hid K)) (.mk : Hid (CallH Tryd.prog 80 [I .i64 n, .l (l.map lnD)] pure σ dst (.mk : Hid K))) := CallH.eq (gcheck_spec n l) pure σ dst K
theorem gcheck_callQ (n : Int) (l : List (Int × Int)) (pure : Bool) (C : V → Prop) : CallQ Tryd.prog 80 [I .i64 n, .l (l.map lnD)] pure (.mk : Hid C) = OrH ((l.length < 2 ^ 62) ∧ (pure || D.flat (erD (chk n l))) = true ∧ evK (V.d (erD (chk n l))) (.mk : Hid C)) (.mk : Hid (CallQ Tryd.prog 80 [I .i64 n, .l (l.map lnD)] pure (.mk : Hid C))) := CallQ.eq (gcheck_spec n l) pure C
def isI (P : Program) (t : TypeId) : Bool := match P.underlying t with
  | some (.interface _) => true
  | _ => false
theorem isI_inv {P : Program} {t : TypeId} (h : isI P t = true) : ∃ ms, P.underlying t = some (.interface ms) := by
  unfold isI at h
  split at h
  · rename_i ms e; exact ⟨ms, e⟩
  · cases h
theorem u25 : ∃ ms, Tryd.prog.underlying 29 = some (.interface ms) := isI_inv (by kernel_rfl)
theorem ub4 : Tryd.prog.underlying 4 = some .bool := by kernel_rfl
theorem er_neq (e : Int) (x : Operand) (C : V → Prop) : binE Tryd.prog .neq 29 x (.const .nilIface) (.d (erD e)) (.d (.c .nilIface)) C = C (.d (Bo (!decide (e = 0)))) := by
  by_cases h : e = 0
  · subst h; obtain ⟨ms, h⟩ := u25; exact binX (nil_neq h x) C
  · simp (implicitDefEqProofs := false) (dsimp := false) only [erD, h, if_false]; obtain ⟨ms, h⟩ := u25; exact binX (some_neq h x _ _ _) C
theorem er_eql (e : Int) (x : Operand) (C : V → Prop) : binE Tryd.prog .eql 29 x (.const .nilIface) (.d (erD e)) (.d (.c .nilIface)) C = C (.d (Bo (decide (e = 0)))) := by
  by_cases h : e = 0
  · subst h; obtain ⟨ms, h⟩ := u25; exact binX (nil_eql h x) C
  · simp (implicitDefEqProofs := false) (dsimp := false) only [erD, h, if_false]; obtain ⟨ms, h⟩ := u25; exact binX (some_eql h x _ _ _) C
theorem er_neq0 (x : Operand) (C : V → Prop) : binE Tryd.prog .neq 29 x (.const .nilIface) (.d (erD 0)) (.d (.c .nilIface)) C = C (.d (Bo false)) := er_neq 0 x C
theorem er_eql0 (x : Operand) (C : V → Prop) : binE Tryd.prog .eql 29 x (.const .nilIface) (.d (erD 0)) (.d (.c .nilIface)) C = C (.d (Bo true)) := er_eql 0 x C
theorem bo_eql (x y : Operand) (a b : Bool) (C : V → Prop) : binE Tryd.prog .eql 4 x y (.d (Bo a)) (.d (Bo b)) C = C (.d (Bo (a == b))) := binE_eqb ub4 x y a b C
theorem bo_neq (x y : Operand) (a b : Bool) (C : V → Prop) : binE Tryd.prog .neq 4 x y (.d (Bo a)) (.d (Bo b)) C = C (.d (Bo (!(a == b)))) := binE_neb ub4 x y a b C
theorem er_one (e : Int) : D.one (erD e) = true := by unfold erD; split <;> rfl
theorem er_flat (e : Int) : D.flat (erD e) = true := by unfold erD; split <;> rfl
theorem rflat_U (n : Nat) (l : List Nat) : Res.flat (.row n (l.map U)) = true := by
  simp [Res.flat, D.flat]
theorem rflat_nD (n : Nat) (l : List Nat) : Res.flat (.row n (l.map nD)) = true := by
  simp [Res.flat, D.flat, nD, I]
theorem rflat_I (n : Nat) (l : List Int) : Res.flat (.row n (l.map (I .i64))) = true := by
  simp [Res.flat, D.flat, I]
theorem rflat_nil (n : Nat) : Res.flat (.row n []) = true := rfl
end Go.Proofs

namespace Go.Proofs
open Go.Aw
set_option linter.unusedSimpArgs false
set_option maxRecDepth 10000
theorem in1_spec (n low high : Int) : FnD Tryd.prog 79 [I .i64 n, I .i64 low, I .i64 high] (Bo (inB n low high)) := by
  refine FnD.go Tryd.func79 rfl rfl Tryd.results79 Tryd.ntmps79 ?_
  simp (implicitDefEqProofs := false) (dsimp := false) only [↓gdK_t, ↓gval_mk, ↓gvL_zero, ↓gvL_succ, ↓aw_seq, ↓aw_reg, ↓Qseq_n, ↓ops_nil, ↓ops_cons, ↓ops_guard, ↓eval_tmp, ↓eval_bool, ↓put_some, ↓binE_i, ↓bi_geq, ↓op_move, ↓op_assign, ↓op_bin, ↓st_tm, List.getD_cons_zero, List.getD_cons_succ, List.set_cons_zero, List.set_cons_succ, List.cons_append, List.nil_append, List.map_cons, List.map_nil, List.length_cons, List.length_nil, Nat.reduceAdd, Nat.reduceSub, Nat.reduceMul, Nat.zero_add, List.replicate, evK_go, reduceIte, Nat.reduceEqDiff, Nat.reduceLT, Int.zero_add]
  refine cdK_dec (fun h => ?_) (fun h => ?_) <;> simp (implicitDefEqProofs := false) (dsimp := false) only [h, inB, ↓cdK_true, ↓cdK_false, ↓gdK_t, ↓gval_mk, ↓gvL_zero, ↓gvL_succ, ↓aw_ret, ↓Qseq_n, ↓Qret_r, ↓ops_nil, ↓ops_cons, ↓ops_guard, ↓eval_tmp, ↓eval_bool, ↓put_some, ↓bK_b, ↓binE_i, ↓bi_leq, ↓op_move, ↓op_assign, ↓op_pick, ↓op_bin, ↓td_d, ↓ret_1, ↓st_tm, List.getD_cons_zero, List.getD_cons_succ, List.set_cons_zero, List.set_cons_succ, Bool.true_and, Bool.false_and, Nat.reduceAdd, Nat.reduceSub, Nat.reduceMul, evK_go, reduceIte, decide_true, decide_false, Nat.reduceEqDiff, Nat.reduceLT, true_and]
theorem in1_call (n low high : Int) (pure : Bool) (σ : St) (dst : Option Tmp) (K : St → Prop) : CallH Tryd.prog 79 [I .i64 n, I .i64 low, I .i64 high] pure σ dst (.mk : Hid K) = OrH ((pure || D.flat (Bo (inB n low high))) = true ∧ evK (σ.put dst (.d (Bo (inB n low high)))) (.mk : Hid K)) (.mk : Hid (CallH Tryd.prog 79 [I .i64 n, I .i64 low, I .i64 high] pure σ dst (.mk : Hid K))) := CallH.eq0 (in1_spec n low high) pure σ dst K
theorem in1_callQ (n low high : Int) (pure : Bool) (C : V → Prop) : CallQ Tryd.prog 79 [I .i64 n, I .i64 low, I .i64 high] pure (.mk : Hid C) = OrH ((pure || D.flat (Bo (inB n low high))) = true ∧ evK (V.d (Bo (inB n low high))) (.mk : Hid C)) (.mk : Hid (CallQ Tryd.prog 79 [I .i64 n, I .i64 low, I .i64 high] pure (.mk : Hid C))) := CallQ.eq0 (in1_spec n low high) pure C
theorem in2_spec (n low high : Int) : FnD Tryd.prog 34 [I .i64 n, I .i64 low, I .i64 high] (Bo (inB n low high)) := by
  refine FnD.go Tryd.func34 rfl rfl Tryd.results34 Tryd.ntmps34 ?_
  simp (implicitDefEqProofs := false) (dsimp := false) only [↓gdK_t, ↓gval_mk, ↓gvL_zero, ↓gvL_succ, ↓aw_seq, ↓aw_reg, ↓Qseq_n, ↓ops_nil, ↓ops_cons, ↓ops_guard, ↓eval_tmp, ↓eval_bool, ↓put_some, ↓binE_i, ↓bi_geq, ↓op_move, ↓op_assign, ↓op_bin, ↓st_tm, List.getD_cons_zero, List.getD_cons_succ, List.set_cons_zero, List.set_cons_succ, List.cons_append, List.nil_append, List.map_cons, List.map_nil, List.length_cons, List.length_nil, Nat.reduceAdd, Nat.reduceSub, Nat.reduceMul, Nat.zero_add, List.replicate, evK_go, reduceIte, Nat.reduceEqDiff, Nat.reduceLT, Int.zero_add]
  refine cdK_dec (fun h => ?_) (fun h => ?_) <;> simp (implicitDefEqProofs := false) (dsimp := false) only [h, inB, ↓cdK_true, ↓cdK_false, ↓gdK_t, ↓gval_mk, ↓gvL_zero, ↓gvL_succ, ↓aw_ret, ↓Qseq_n, ↓Qret_r, ↓ops_nil, ↓ops_cons, ↓ops_guard, ↓eval_tmp, ↓eval_bool, ↓put_some, ↓bK_b, ↓binE_i, ↓bi_leq, ↓op_move, ↓op_assign, ↓op_pick, ↓op_bin, ↓td_d, ↓ret_1, ↓st_tm, List.getD_cons_zero, List.getD_cons_succ, List.set_cons_zero, List.set_cons_succ, Bool.true_and, Bool.false_and, Nat.reduceAdd, Nat.reduceSub, Nat.reduceMul, evK_go, reduceIte, decide_true, decide_false, Nat.reduceEqDiff, Nat.reduceLT, true_and]
theorem in2_call (n low high : Int) (pure : Bool) (σ : St) (dst : Option Tmp) (K : St → Prop) : CallH Tryd.prog 34 [I .i64 n, I .i64 low, I .i64 high] pure σ dst (.mk : Hid K) = OrH ((pure || D.flat (Bo (inB n low high))) = true ∧ evK (σ.put dst (.d (Bo (inB n low high)))) (.mk : Hid K)) (.mk : Hid (CallH Tryd.prog 34 [I .i64 n, I .i64 low, I .i64 high] pure σ dst (.mk : Hid K))) := CallH.eq0 (in2_spec n low high) pure σ dst K
theorem in2_callQ (n low high : Int) (pure : Bool) (C : V → Prop) : CallQ Tryd.prog 34 [I .i64 n, I .i64 low, I .i64 high] pure (.mk : Hid C) = OrH ((pure || D.flat (Bo (inB n low high))) = true ∧ evK (V.d (Bo (inB n low high))) (.mk : Hid C)) (.mk : Hid (CallQ Tryd.prog 34 [I .i64 n, I .i64 low, I .i64 high] pure (.mk : Hid C))) := CallQ.eq0 (in2_spec n low high) pure C
theorem hasR_spec (l : List Int) (n : Int) (hpre : l.length < 2 ^ 62) : FnD Tryd.prog 41 [.l (l.map (I .i64)), I .i64 n] (Bo (decide (n ∈ l))) := by
  refine FnD.go Tryd.func41 rfl rfl Tryd.results41 Tryd.ntmps41 ?_
  simp (implicitDefEqProofs := false) (dsimp := false) only [↓aw_seq, ↓aw_block, ↓aw_loop, ↓aw_reg, ↓Qseq_n, ↓ops_nil, ↓ops_cons, ↓eval_int, ↓eval_bool, ↓put_some, ↓op_assign, List.set_cons_zero, List.set_cons_succ, List.cons_append, List.nil_append, List.map_cons, List.map_nil, List.length_cons, List.length_nil, Nat.reduceAdd, Nat.reduceSub, Nat.reduceMul, Nat.zero_add, List.replicate, evK_go, reduceIte, Nat.reduceEqDiff, Nat.reduceLT, Int.zero_add]
  refine loopW (fun k : Nat => { tm := slots 18 [(0, .d (.l (l.map (I .i64)))), (1, .d (I .i64 n)), (5, .d (I .i64 k))], bx := [], rw := [] })
    (fun k => k ≤ l.length ∧ n ∉ l.take k) (fun k => l.length - k) 0 ⟨by simp, by simp⟩ ?_ ?_
  · refine Wkn.of [] [] ?_
    simp (implicitDefEqProofs := false) (dsimp := false) only [List.set_cons_zero, List.set_cons_succ, Bool.and_self, Nat.reduceAdd, Nat.reduceSub, Nat.reduceMul, List.replicate, evK_go, reduceIte, Nat.reduceEqDiff, Nat.reduceLT, and_self, List.foldl_cons, List.foldl_nil, Int.cast_ofNat_Int, slots, wkL_nil, wkL_cons, wkB_nil, wkR_nil, wkV_j, wkV_d, frz_d, reduceCtorEq]
  · rintro k ⟨h1, h2⟩
    simp (implicitDefEqProofs := false) (dsimp := false) only [slots, ↓aw_cond, ↓aw_seq, ↓aw_reg, ↓Qseq_n, ↓ops_nil, ↓ops_cons, ↓eval_tmp, ↓put_some, ↓bK_b, ↓lenK_l, ↓binE_i, ↓bi_lss, ↓op_move, ↓op_bin, ↓op_len, ↓sl24, List.getD_cons_zero, List.getD_cons_succ, List.set_cons_zero, List.set_cons_succ, List.length_map, Nat.reduceAdd, Nat.reduceSub, Nat.reduceMul, List.replicate, evK_go, reduceIte, Nat.reduceEqDiff, Nat.reduceLT, List.foldl_cons, List.foldl_nil, Int.ofNat_lt]
    refine cdK_dec (fun h => ?_) (fun h => ?_)
    · simp (implicitDefEqProofs := false) (dsimp := false) only [h, ↓atK_H, ↓atH_map, ↓aw_cond, ↓aw_seq, ↓aw_block, ↓aw_skip, ↓aw_reg, ↓Qseq_n, ↓ops_nil, ↓ops_cons, ↓eval_tmp, ↓put_some, ↓bK_b, ↓iK_i, ↓binE_i, ↓bi_eql, ↓ldK_q, ↓iaK_l, ↓op_move, ↓op_load, ↓op_bin, ↓op_ia, ↓cells_c, ↓hd_cons, ↓ty3, ↓sl24, List.getD_cons_zero, List.getD_cons_succ, List.set_cons_zero, List.set_cons_succ, List.length_cons, List.length_nil, Bool.true_and, Nat.reduceAdd, Nat.reduceSub, Nat.reduceMul, Nat.zero_add, Int.toNat_natCast, evK_go, reduceIte, decide_true, Nat.reduceEqDiff, Nat.reduceLT, true_and, Int.zero_add, Int.natCast_nonneg]
      refine cdK_dec (fun hb => ?_) (fun hb => ?_)
      · have : n ∈ l := by rw [← hb]; exact getD_mem h
        simp (implicitDefEqProofs := false) (dsimp := false) only [this, ↓aw_seq, ↓aw_ret, ↓aw_reg, ↓Qseq_n, ↓Qseq_r, ↓Qblk_r, ↓Qret_r, ↓ops_nil, ↓ops_cons, ↓eval_tmp, ↓eval_bool, ↓put_some, ↓op_assign, ↓td_d, ↓ret_1, List.getD_cons_zero, List.getD_cons_succ, List.set_cons_zero, List.set_cons_succ, Nat.reduceAdd, Nat.reduceSub, Nat.reduceMul, evK_go, reduceIte, decide_true, Nat.reduceEqDiff, Nat.reduceLT]
      · simp (implicitDefEqProofs := false) (dsimp := false) only [↓aw_skip, ↓aw_reg, ↓Qseq_n, ↓Qblk_n, ↓ops_nil, ↓ops_cons, ↓eval_tmp, ↓eval_int, ↓put_some, ↓binE_i, ↓bi_add, ↓in_i64, ↓op_move, ↓op_assign, ↓op_bin, List.getD_cons_zero, List.getD_cons_succ, List.set_cons_zero, List.set_cons_succ, Nat.reduceAdd, Nat.reduceSub, Nat.reduceMul, evK_go, reduceIte, Nat.reduceEqDiff, Nat.reduceLT]
        refine ⟨by omega, k + 1, ⟨by omega, ?_⟩, by omega, ?_⟩
        · rw [take_succ_getD h, List.mem_append, List.mem_singleton]
          exact fun h' => h'.elim h2 (fun e => hb e.symm)
        · refine Wkn.of [] [] ?_
          simp (implicitDefEqProofs := false) (dsimp := false) only [List.set_cons_zero, List.set_cons_succ, Bool.and_self, Nat.reduceAdd, Nat.reduceSub, Nat.reduceMul, List.replicate, evK_go, reduceIte, Nat.reduceEqDiff, Nat.reduceLT, and_self, List.foldl_cons, List.foldl_nil, Int.cast_ofNat_Int, Int.natCast_add, slots, wkL_nil, wkL_cons, wkB_nil, wkR_nil, wkV_j, wkV_d, frz_d, reduceCtorEq]
    · obtain rfl : k = l.length := by omega
      rw [List.take_length] at h2
      simp (implicitDefEqProofs := false) (dsimp := false) only [h2, ↓aw_seq, ↓aw_exit, ↓aw_ret, ↓aw_reg, ↓Qseq_n, ↓Qseq_x, ↓Qblk_x, ↓Qret_r, ↓ops_nil, ↓ops_cons, ↓eval_tmp, ↓eval_bool, ↓put_some, ↓op_assign, ↓td_d, ↓ret_1, List.getD_cons_zero, List.getD_cons_succ, List.set_cons_zero, List.set_cons_succ, Nat.reduceAdd, Nat.reduceSub, Nat.reduceMul, evK_go, reduceIte, decide_false, Nat.reduceEqDiff, Nat.reduceLT, Nat.lt_irrefl]
theorem hasR_call (l : List Int) (n : Int) (pure : Bool) (σ : St) (dst : Option Tmp) (K : St → Prop) : CallH Tryd.prog 41 [.l (l.map (I .i64)), I .i64 n] pure σ dst (.mk : Hid K) = OrH ((l.length < 2 ^ 62) ∧ (pure || D.flat (Bo (decide (n ∈ l)))) = true ∧ evK (σ.put dst (.d (Bo (decide (n ∈ l))))) (.mk : Hid K)) (.mk : Hid (CallH Tryd.prog 41 [.l (l.map (I .i64)), I .i64 n] pure σ dst (.mk : Hid K))) := CallH.eq (hasR_spec l n) pure σ dst K
theorem hasR_callQ (l : List Int) (n : Int) (pure : Bool) (C : V → Prop) : CallQ Tryd.prog 41 [.l (l.map (I .i64)), I .i64 n] pure (.mk : Hid C) = OrH ((l.length < 2 ^ 62) ∧ (pure || D.flat (Bo (decide (n ∈ l)))) = true ∧ evK (V.d (Bo (decide (n ∈ l)))) (.mk : Hid C)) (.mk : Hid (CallQ Tryd.prog 41 [.l (l.map (I .i64)), I .i64 n] pure (.mk : Hid C))) := CallQ.eq (hasR_spec l n) pure C
theorem allR_spec (l : List Int) (low high : Int) (hpre : l.length < 2 ^ 62) : FnD Tryd.prog 29 [.l (l.map (I .i64)), I .i64 low, I .i64 high] (Bo (l.all fun x => inB x low high)) := by
  refine FnD.go Tryd.func29 rfl rfl Tryd.results29 Tryd.ntmps29 ?_
  simp (implicitDefEqProofs := false) (dsimp := false) only [↓aw_seq, ↓aw_block, ↓aw_loop, ↓aw_reg, ↓Qseq_n, ↓ops_nil, ↓ops_cons, ↓eval_int, ↓eval_bool, ↓put_some, ↓op_assign, List.set_cons_zero, List.set_cons_succ, List.cons_append, List.nil_append, List.map_cons, List.map_nil, List.length_cons, List.length_nil, Nat.reduceAdd, Nat.reduceSub, Nat.reduceMul, Nat.zero_add, List.replicate, evK_go, reduceIte, Nat.reduceEqDiff, Nat.reduceLT, Int.zero_add]
  refine loopW (fun k : Nat => { tm := slots 22 [(0, .d (.l (l.map (I .i64)))), (1, .d (I .i64 low)), (2, .d (I .i64 high)), (7, .d (I .i64 k))], bx := [], rw := [] })
    (fun k => k ≤ l.length ∧ (l.take k).all (fun x => inB x low high) = true) (fun k => l.length - k) 0 ⟨by simp, by simp⟩ ?_ ?_
  · refine Wkn.of [] [] ?_
    simp (implicitDefEqProofs := false) (dsimp := false) only [List.set_cons_zero, List.set_cons_succ, Bool.and_self, Nat.reduceAdd, Nat.reduceSub, Nat.reduceMul, List.replicate, evK_go, reduceIte, Nat.reduceEqDiff, Nat.reduceLT, and_self, List.foldl_cons, List.foldl_nil, Int.cast_ofNat_Int, slots, wkL_nil, wkL_cons, wkB_nil, wkR_nil, wkV_j, wkV_d, frz_d, reduceCtorEq]
  · rintro k ⟨h1, h2⟩
    simp (implicitDefEqProofs := false) (dsimp := false) only [slots, ↓aw_cond, ↓aw_seq, ↓aw_reg, ↓Qseq_n, ↓ops_nil, ↓ops_cons, ↓eval_tmp, ↓put_some, ↓bK_b, ↓lenK_l, ↓binE_i, ↓bi_lss, ↓op_move, ↓op_bin, ↓op_len, ↓sl24, List.getD_cons_zero, List.getD_cons_succ, List.set_cons_zero, List.set_cons_succ, List.length_map, Nat.reduceAdd, Nat.reduceSub, Nat.reduceMul, List.replicate, evK_go, reduceIte, Nat.reduceEqDiff, Nat.reduceLT, List.foldl_cons, List.foldl_nil, Int.ofNat_lt]
    refine cdK_dec (fun h => ?_) (fun h => ?_)
    · simp (implicitDefEqProofs := false) (dsimp := false) only [h, in1_call, ↓cdK_not, ↓atK_H, ↓atH_map, ↓aw_cond, ↓aw_seq, ↓aw_block, ↓aw_skip, ↓aw_reg, ↓Qseq_n, ↓ops_nil, ↓ops_cons, ↓eval_tmp, ↓eval_func, ↓put_some, ↓bK_b, ↓iK_i, ↓ldK_q, ↓iaK_l, ↓op_move, ↓op_load, ↓op_not, ↓op_ia, ↓op_call, isD_d, ↓fnK_f, ↓call_H, ↓callK_H, ↓allT_nil, ↓allT_cons, ↓td_d, ↓cells_c, ↓hd_cons, ↓ty3, ↓sl24, List.getD_cons_zero, List.getD_cons_succ, List.set_cons_zero, List.set_cons_succ, List.append_nil, List.length_cons, List.length_nil, List.all_cons, List.all_nil, Bool.true_and, Bool.and_self, Bool.true_or, Nat.reduceAdd, Nat.reduceSub, Nat.reduceMul, Nat.zero_add, Int.toNat_natCast, evK_go, reduceIte, decide_true, Nat.reduceEqDiff, Nat.reduceLT, and_self, true_and, Int.zero_add, Int.natCast_nonneg]
      refine OrH.l (OrH.l ?_)
      refine cdK_split (fun hb => ?_) (fun hb => ?_)
      · simp (implicitDefEqProofs := false) (dsimp := false) only [↓aw_skip, ↓aw_reg, ↓Qseq_n, ↓Qblk_n, ↓ops_nil, ↓ops_cons, ↓eval_tmp, ↓eval_int, ↓put_some, ↓binE_i, ↓bi_add, ↓in_i64, ↓op_move, ↓op_assign, ↓op_bin, List.getD_cons_zero, List.getD_cons_succ, List.set_cons_zero, List.set_cons_succ, Nat.reduceAdd, Nat.reduceSub, Nat.reduceMul, evK_go, reduceIte, Nat.reduceEqDiff, Nat.reduceLT]
        refine ⟨by omega, k + 1, ⟨by omega, ?_⟩, by omega, ?_⟩
        · rw [take_succ_getD h, List.all_append, h2]; simp (implicitDefEqProofs := false) (dsimp := false) only [List.all_cons, List.all_nil, hb, Bool.and_self]
        · refine Wkn.of [] [] ?_
          simp (implicitDefEqProofs := false) (dsimp := false) only [List.set_cons_zero, List.set_cons_succ, Bool.and_self, Nat.reduceAdd, Nat.reduceSub, Nat.reduceMul, List.replicate, evK_go, reduceIte, Nat.reduceEqDiff, Nat.reduceLT, and_self, List.foldl_cons, List.foldl_nil, Int.cast_ofNat_Int, Int.natCast_add, slots, wkL_nil, wkL_cons, wkB_nil, wkR_nil, wkV_j, wkV_d, frz_d, reduceCtorEq]
      · simp (implicitDefEqProofs := false) (dsimp := false) only [all_false (p := fun x => inB x low high) h hb, ↓aw_seq, ↓aw_ret, ↓aw_reg, ↓Qseq_n, ↓Qseq_r, ↓Qblk_r, ↓Qret_r, ↓ops_nil, ↓ops_cons, ↓eval_tmp, ↓eval_bool, ↓put_some, ↓op_assign, ↓td_d, ↓ret_1, List.getD_cons_zero, List.getD_cons_succ, List.set_cons_zero, List.set_cons_succ, Nat.reduceAdd, Nat.reduceSub, Nat.reduceMul, evK_go, reduceIte, Nat.reduceEqDiff, Nat.reduceLT]
    · simp (implicitDefEqProofs := false) (dsimp := false) only [↓aw_seq, ↓aw_exit, ↓aw_ret, ↓aw_reg, ↓Qseq_n, ↓Qseq_x, ↓Qblk_x, ↓Qret_r, ↓ops_nil, ↓ops_cons, ↓eval_tmp, ↓eval_bool, ↓put_some, ↓op_assign, ↓td_d, ↓ret_1, List.getD_cons_zero, List.getD_cons_succ, List.set_cons_zero, List.set_cons_succ, Nat.reduceAdd, Nat.reduceSub, Nat.reduceMul, evK_go, reduceIte, Nat.reduceEqDiff, Nat.reduceLT]
      obtain rfl : k = l.length := by omega
      rw [List.take_length] at h2
      rw [h2]
theorem allR_call (l : List Int) (low high : Int) (pure : Bool) (σ : St) (dst : Option Tmp) (K : St → Prop) : CallH Tryd.prog 29 [.l (l.map (I .i64)), I .i64 low, I .i64 high] pure σ dst (.mk : Hid K) = OrH ((l.length < 2 ^ 62) ∧ (pure || D.flat (Bo (l.all fun x => inB x low high))) = true ∧ evK (σ.put dst (.d (Bo (l.all fun x => inB x low high)))) (.mk : Hid K)) (.mk : Hid (CallH Tryd.prog 29 [.l (l.map (I .i64)), I .i64 low, I .i64 high] pure σ dst (.mk : Hid K))) := CallH.eq (allR_spec l low high) pure σ dst K
theorem allR_callQ (l : List Int) (low high : Int) (pure : Bool) (C : V → Prop) : CallQ Tryd.prog 29 [.l (l.map (I .i64)), I .i64 low, I .i64 high] pure (.mk : Hid C) = OrH ((l.length < 2 ^ 62) ∧ (pure || D.flat (Bo (l.all fun x => inB x low high))) = true ∧ evK (V.d (Bo (l.all fun x => inB x low high))) (.mk : Hid C)) (.mk : Hid (CallQ Tryd.prog 29 [.l (l.map (I .i64)), I .i64 low, I .i64 high] pure (.mk : Hid C))) := CallQ.eq (allR_spec l low high) pure C
/-- Does a number stand twice? -/
def twice : List Int → Bool
  | l => !decide l.Nodup
theorem nodup_take {l : List Int} {k : Nat} (h : k < l.length) (h0 : (l.take k).Nodup) : (l.getD k default ∈ l.take k → ¬ l.Nodup) ∧ (l.getD k default ∉ l.take k → (l.take (k + 1)).Nodup) := by
  constructor
  · intro hm hn
    have : (l.take (k + 1)).Nodup := hn.sublist (List.take_sublist _ _)
    rw [take_succ_getD h, List.nodup_append] at this
    exact this.2.2 _ hm _ (List.mem_singleton.2 rfl) rfl
  · intro hm
    rw [take_succ_getD h, List.nodup_append]
    exact ⟨h0, by simp, fun a ha b hb e => hm (by rw [← List.mem_singleton.1 hb, ← e]; exact ha)⟩
theorem twice_spec (l : List Int) (hpre : l.length < 2 ^ 62) : FnD Tryd.prog 30 [.l (l.map (I .i64))] (Bo (twice l)) := by
  refine FnD.go Tryd.func30 rfl rfl Tryd.results30 Tryd.ntmps30 ?_
  simp (implicitDefEqProofs := false) (dsimp := false) only [↓aw_seq, ↓aw_block, ↓aw_loop, ↓aw_reg, ↓Qseq_n, ↓ops_nil, ↓ops_cons, ↓eval_int, ↓eval_bool, ↓put_some, ↓op_assign, List.set_cons_zero, List.set_cons_succ, List.cons_append, List.nil_append, List.map_cons, List.map_nil, List.length_cons, List.length_nil, Nat.reduceAdd, Nat.reduceSub, Nat.reduceMul, Nat.zero_add, List.replicate, evK_go, reduceIte, Nat.reduceEqDiff, Nat.reduceLT, Int.zero_add]
  refine loopW (fun k : Nat => { tm := slots 18 [(0, .d (.l (l.map (I .i64)))), (3, .d (I .i64 k))], bx := [], rw := [] })
    (fun k => k ≤ l.length ∧ (l.take k).Nodup) (fun k => l.length - k) 0 ⟨by simp, by simp⟩ ?_ ?_
  · refine Wkn.of [] [] ?_
    simp (implicitDefEqProofs := false) (dsimp := false) only [List.set_cons_zero, List.set_cons_succ, Bool.and_self, Nat.reduceAdd, Nat.reduceSub, Nat.reduceMul, List.replicate, evK_go, reduceIte, Nat.reduceEqDiff, Nat.reduceLT, and_self, List.foldl_cons, List.foldl_nil, Int.cast_ofNat_Int, slots, wkL_nil, wkL_cons, wkB_nil, wkR_nil, wkV_j, wkV_d, frz_d, reduceCtorEq]
  · rintro k ⟨h1, h2⟩
    simp (implicitDefEqProofs := false) (dsimp := false) only [slots, ↓aw_cond, ↓aw_seq, ↓aw_reg, ↓Qseq_n, ↓ops_nil, ↓ops_cons, ↓eval_tmp, ↓put_some, ↓bK_b, ↓lenK_l, ↓binE_i, ↓bi_lss, ↓op_move, ↓op_bin, ↓op_len, ↓sl24, List.getD_cons_zero, List.getD_cons_succ, List.set_cons_zero, List.set_cons_succ, List.length_map, Nat.reduceAdd, Nat.reduceSub, Nat.reduceMul, List.replicate, evK_go, reduceIte, Nat.reduceEqDiff, Nat.reduceLT, List.foldl_cons, List.foldl_nil, Int.ofNat_lt]
    refine cdK_dec (fun h => ?_) (fun h => ?_)
    · have hlt : (l.take k).length < 2 ^ 62 := by rw [List.length_take]; omega
      have e : List.take (k : Int).toNat (l.map (I .i64)) = (l.take k).map (I .i64) := by rw [Int.toNat_natCast, List.map_take]
      have e' : List.take k (l.map (I .i64)) = (l.take k).map (I .i64) := by rw [List.map_take]
      simp (implicitDefEqProofs := false) (dsimp := false) only [h, e', hasR_callQ, hlt, ↓atK_H, ↓atH_map, ↓aw_cond, ↓aw_seq, ↓aw_block, ↓aw_skip, ↓aw_draw, ↓Qseq_n, ↓eval_tmp, ↓eval_func, ↓put_some, ↓bK_b, ↓iK_i, ↓ev_move, ↓ev_load, ↓ev_ia, ↓ev_slice, ↓optI_none, ↓optI_some, ↓ldK_q, ↓iaK_l, ↓sliK_l, isD_d, ↓fnK_f, ↓callKQ_H, ↓allT_nil, ↓allT_cons, ↓td_d, ↓draw_H, ↓h_nil, ↓h_cons, ↓ldH_n, ↓q_call, ↓q_move, ↓q_load, ↓q_ia, ↓q_slice, ↓il_move, ↓il_load, ↓il_ia, ↓il_slice, ↓il_call, ↓cells_c, ↓hd_cons, ↓ty3, ↓sl24, List.getD_cons_zero, List.getD_cons_succ, List.set_cons_zero, List.set_cons_succ, List.append_nil, List.length_cons, List.length_nil, List.length_map, List.all_cons, List.all_nil, Bool.true_and, Bool.and_self, Bool.true_or, Nat.reduceAdd, Nat.reduceSub, Nat.reduceMul, Nat.zero_add, Int.toNat_natCast, Int.toNat_zero, evK_go, reduceIte, decide_true, Nat.reduceEqDiff, Nat.reduceLT, and_self, true_and, Option.getD_none, Option.getD_some, Int.zero_add, List.drop_zero, Int.ofNat_le, Int.natCast_nonneg]
      refine OrH.l ⟨DrawH.of follows_mixed (by kernel_rfl), ⟨by omega, by omega⟩, ?_, OrH.l (OrH.l ?_)⟩
      · intro x hx; obtain ⟨y, _, rfl⟩ := List.mem_map.1 hx; rfl
      obtain ⟨g1, g2⟩ := nodup_take h h2
      refine cdK_dec (fun hb => ?_) (fun hb => ?_)
      · simp (implicitDefEqProofs := false) (dsimp := false) only [twice, g1 hb, ↓aw_seq, ↓aw_ret, ↓aw_reg, ↓Qseq_n, ↓Qseq_r, ↓Qblk_r, ↓Qret_r, ↓ops_nil, ↓ops_cons, ↓eval_tmp, ↓eval_bool, ↓put_some, ↓op_assign, ↓td_d, ↓ret_1, List.getD_cons_zero, List.getD_cons_succ, List.set_cons_zero, List.set_cons_succ, Nat.reduceAdd, Nat.reduceSub, Nat.reduceMul, evK_go, reduceIte, decide_false, Bool.not_false, Nat.reduceEqDiff, Nat.reduceLT]
      · simp (implicitDefEqProofs := false) (dsimp := false) only [↓aw_skip, ↓aw_reg, ↓Qseq_n, ↓Qblk_n, ↓ops_nil, ↓ops_cons, ↓eval_tmp, ↓eval_int, ↓put_some, ↓binE_i, ↓bi_add, ↓in_i64, ↓op_move, ↓op_assign, ↓op_bin, List.getD_cons_zero, List.getD_cons_succ, List.set_cons_zero, List.set_cons_succ, Nat.reduceAdd, Nat.reduceSub, Nat.reduceMul, evK_go, reduceIte, Nat.reduceEqDiff, Nat.reduceLT]
        refine ⟨by omega, k + 1, ⟨by omega, g2 hb⟩, by omega, ?_⟩
        refine Wkn.of [] [] ?_
        simp (implicitDefEqProofs := false) (dsimp := false) only [List.set_cons_zero, List.set_cons_succ, Bool.and_self, Nat.reduceAdd, Nat.reduceSub, Nat.reduceMul, List.replicate, evK_go, reduceIte, Nat.reduceEqDiff, Nat.reduceLT, and_self, List.foldl_cons, List.foldl_nil, Int.cast_ofNat_Int, Int.natCast_add, slots, wkL_nil, wkL_cons, wkB_nil, wkR_nil, wkV_j, wkV_d, frz_d, reduceCtorEq]
    · obtain rfl : k = l.length := by omega
      rw [List.take_length] at h2
      simp (implicitDefEqProofs := false) (dsimp := false) only [twice, h2, ↓aw_seq, ↓aw_exit, ↓aw_ret, ↓aw_reg, ↓Qseq_n, ↓Qseq_x, ↓Qblk_x, ↓Qret_r, ↓ops_nil, ↓ops_cons, ↓eval_tmp, ↓eval_bool, ↓put_some, ↓op_assign, ↓td_d, ↓ret_1, List.getD_cons_zero, List.getD_cons_succ, List.set_cons_zero, List.set_cons_succ, Nat.reduceAdd, Nat.reduceSub, Nat.reduceMul, evK_go, reduceIte, decide_true, decide_false, Bool.not_true, Nat.reduceEqDiff, Nat.reduceLT, Nat.lt_irrefl]
theorem twice_call (l : List Int) (pure : Bool) (σ : St) (dst : Option Tmp) (K : St → Prop) : CallH Tryd.prog 30 [.l (l.map (I .i64))] pure σ dst (.mk : Hid K) = OrH ((l.length < 2 ^ 62) ∧ (pure || D.flat (Bo (twice l))) = true ∧ evK (σ.put dst (.d (Bo (twice l)))) (.mk : Hid K)) (.mk : Hid (CallH Tryd.prog 30 [.l (l.map (I .i64))] pure σ dst (.mk : Hid K))) := CallH.eq (twice_spec l) pure σ dst K
theorem twice_callQ (l : List Int) (pure : Bool) (C : V → Prop) : CallQ Tryd.prog 30 [.l (l.map (I .i64))] pure (.mk : Hid C) = OrH ((l.length < 2 ^ 62) ∧ (pure || D.flat (Bo (twice l))) = true ∧ evK (V.d (Bo (twice l))) (.mk : Hid C)) (.mk : Hid (CallQ Tryd.prog 30 [.l (l.map (I .i64))] pure (.mk : Hid C))) := CallQ.eq (twice_spec l) pure C
theorem goes_spec (l : List (Int × Int)) (a b : Int) (hpre : l.length < 2 ^ 62) : FnD Tryd.prog 40 [.l (l.map lnD), I .i64 a, I .i64 b] (Bo (decide ((a, b) ∈ l))) := by
  refine FnD.go Tryd.func40 rfl rfl Tryd.results40 Tryd.ntmps40 ?_
  simp (implicitDefEqProofs := false) (dsimp := false) only [↓aw_seq, ↓aw_block, ↓aw_loop, ↓aw_reg, ↓Qseq_n, ↓ops_nil, ↓ops_cons, ↓eval_int, ↓eval_bool, ↓put_some, ↓op_assign, List.set_cons_zero, List.set_cons_succ, List.cons_append, List.nil_append, List.map_cons, List.map_nil, List.length_cons, List.length_nil, Nat.reduceAdd, Nat.reduceSub, Nat.reduceMul, Nat.zero_add, List.replicate, evK_go, reduceIte, Nat.reduceEqDiff, Nat.reduceLT, Int.zero_add]
  refine loopW (fun k : Nat => { tm := slots 30 [(0, .d (.l (l.map lnD))), (1, .d (I .i64 a)), (2, .d (I .i64 b)), (7, .d (I .i64 k))], bx := [], rw := [] })
    (fun k => k ≤ l.length ∧ (a, b) ∉ l.take k) (fun k => l.length - k) 0 ⟨by simp, by simp⟩ ?_ ?_
  · refine Wkn.of [] [] ?_
    simp (implicitDefEqProofs := false) (dsimp := false) only [List.set_cons_zero, List.set_cons_succ, Bool.and_self, Nat.reduceAdd, Nat.reduceSub, Nat.reduceMul, List.replicate, evK_go, reduceIte, Nat.reduceEqDiff, Nat.reduceLT, and_self, List.foldl_cons, List.foldl_nil, Int.cast_ofNat_Int, slots, wkL_nil, wkL_cons, wkB_nil, wkR_nil, wkV_j, wkV_d, frz_d, reduceCtorEq]
  · rintro k ⟨h1, h2⟩
    simp (implicitDefEqProofs := false) (dsimp := false) only [slots, ↓aw_cond, ↓aw_seq, ↓aw_reg, ↓Qseq_n, ↓ops_nil, ↓ops_cons, ↓eval_tmp, ↓put_some, ↓bK_b, ↓lenK_l, ↓binE_i, ↓bi_lss, ↓op_move, ↓op_bin, ↓op_len, ↓sl22, List.getD_cons_zero, List.getD_cons_succ, List.set_cons_zero, List.set_cons_succ, List.length_map, Nat.reduceAdd, Nat.reduceSub, Nat.reduceMul, List.replicate, evK_go, reduceIte, Nat.reduceEqDiff, Nat.reduceLT, List.foldl_cons, List.foldl_nil, Int.ofNat_lt]
    refine cdK_dec (fun h => ?_) (fun h => ?_)
    · have ev : ∀ (hb : ¬ ((l.getD k default).1 = a ∧ (l.getD k default).2 = b)), (a, b) ∉ l.take (k + 1) := fun hb => by
        rw [take_succ_getD h, List.mem_append, List.mem_singleton]
        exact fun h' => h'.elim h2 (fun e => hb (by rw [← e]; exact ⟨rfl, rfl⟩))
      simp (implicitDefEqProofs := false) (dsimp := false) only [h, lnD_cells, ↓gdK_t, ↓gval_mk, ↓gvL_zero, ↓gvL_succ, ↓atK_H, ↓atH_map, ↓aw_seq, ↓aw_block, ↓aw_skip, ↓aw_reg, ↓Qseq_n, ↓ops_cons, ↓ops_guard, ↓eval_tmp, ↓put_some, ↓iK_i, ↓binE_i, ↓bi_eql, ↓ldK_q, ↓faK_q, ↓iaK_l, ↓op_move, ↓op_load, ↓op_bin, ↓op_fa, ↓op_ia, ↓st_tm, ↓hd_cons, ↓ty3, ↓sl22, ↓ty41, ↓fd41_0, List.getD_cons_zero, List.getD_cons_succ, List.set_cons_zero, List.set_cons_succ, List.length_cons, List.length_nil, Bool.true_and, Nat.reduceAdd, Nat.reduceSub, Nat.reduceMul, Nat.zero_add, Int.toNat_natCast, evK_go, reduceIte, decide_true, Nat.reduceEqDiff, Nat.reduceLT, true_and, Int.zero_add, List.drop_zero, Int.natCast_nonneg]
      refine cdK_dec (fun hA => ?_) (fun hA => ?_)
      · simp (implicitDefEqProofs := false) (dsimp := false) only [h, hA, lnD_cells, ↓cdK_true, ↓gdK_t, ↓gval_mk, ↓gvL_zero, ↓gvL_succ, ↓atK_H, ↓atH_map, ↓aw_cond, ↓Qseq_n, ↓ops_nil, ↓ops_cons, ↓ops_guard, ↓eval_tmp, ↓put_some, ↓bK_b, ↓iK_i, ↓binE_i, ↓bi_eql, ↓ldK_q, ↓faK_q, ↓iaK_l, ↓op_move, ↓op_pick, ↓op_load, ↓op_bin, ↓op_fa, ↓op_ia, ↓st_tm, ↓hd_cons, ↓ty3, ↓sl22, ↓ty41, ↓fd41_1, List.getD_cons_zero, List.getD_cons_succ, List.set_cons_zero, List.set_cons_succ, List.length_cons, List.length_nil, Bool.true_and, Nat.reduceAdd, Nat.reduceSub, Nat.reduceMul, Nat.zero_add, Int.toNat_natCast, evK_go, reduceIte, decide_true, Nat.reduceEqDiff, Nat.reduceLT, true_and, Int.zero_add, List.drop_zero, List.drop_succ_cons, Int.natCast_nonneg]
        refine cdK_dec (fun hB => ?_) (fun hB => ?_)
        · have : (a, b) ∈ l := by rw [← hA, ← hB]; exact getD_mem h
          simp (implicitDefEqProofs := false) (dsimp := false) only [hB, this, ↓aw_seq, ↓aw_ret, ↓aw_reg, ↓Qseq_n, ↓Qseq_r, ↓Qblk_r, ↓Qret_r, ↓ops_nil, ↓ops_cons, ↓eval_tmp, ↓eval_bool, ↓put_some, ↓op_assign, ↓td_d, ↓ret_1, List.getD_cons_zero, List.getD_cons_succ, List.set_cons_zero, List.set_cons_succ, Nat.reduceAdd, Nat.reduceSub, Nat.reduceMul, evK_go, reduceIte, decide_true, Nat.reduceEqDiff, Nat.reduceLT]
        · simp (implicitDefEqProofs := false) (dsimp := false) only [hB, ↓aw_skip, ↓aw_reg, ↓Qseq_n, ↓Qblk_n, ↓ops_nil, ↓ops_cons, ↓eval_tmp, ↓eval_int, ↓put_some, ↓binE_i, ↓bi_add, ↓in_i64, ↓op_move, ↓op_assign, ↓op_bin, List.getD_cons_zero, List.getD_cons_succ, List.set_cons_zero, List.set_cons_succ, Nat.reduceAdd, Nat.reduceSub, Nat.reduceMul, evK_go, reduceIte, decide_false, Nat.reduceEqDiff, Nat.reduceLT]
          refine ⟨by omega, k + 1, ⟨by omega, ev fun h' => hB h'.2⟩, by omega, ?_⟩
          refine Wkn.of [] [] ?_
          simp (implicitDefEqProofs := false) (dsimp := false) only [List.set_cons_zero, List.set_cons_succ, Bool.and_self, Nat.reduceAdd, Nat.reduceSub, Nat.reduceMul, List.replicate, evK_go, reduceIte, Nat.reduceEqDiff, Nat.reduceLT, and_self, List.foldl_cons, List.foldl_nil, Int.cast_ofNat_Int, Int.natCast_add, slots, wkL_nil, wkL_cons, wkB_nil, wkR_nil, wkV_j, wkV_d, frz_d, reduceCtorEq]
      · simp (implicitDefEqProofs := false) (dsimp := false) only [hA, ↓cdK_false, ↓gdK_t, ↓gval_mk, ↓gvL_zero, ↓gvL_succ, ↓aw_cond, ↓aw_skip, ↓aw_reg, ↓Qseq_n, ↓Qblk_n, ↓ops_nil, ↓ops_cons, ↓ops_guard, ↓eval_tmp, ↓eval_int, ↓eval_bool, ↓put_some, ↓bK_b, ↓binE_i, ↓bi_add, ↓in_i64, ↓op_move, ↓op_assign, ↓op_pick, ↓op_bin, ↓st_tm, List.getD_cons_zero, List.getD_cons_succ, List.set_cons_zero, List.set_cons_succ, Nat.reduceAdd, Nat.reduceSub, Nat.reduceMul, evK_go, reduceIte, decide_false, Nat.reduceEqDiff, Nat.reduceLT]
        refine ⟨by omega, k + 1, ⟨by omega, ev fun h' => hA h'.1⟩, by omega, ?_⟩
        refine Wkn.of [] [] ?_
        simp (implicitDefEqProofs := false) (dsimp := false) only [List.set_cons_zero, List.set_cons_succ, Bool.and_self, Nat.reduceAdd, Nat.reduceSub, Nat.reduceMul, List.replicate, evK_go, reduceIte, Nat.reduceEqDiff, Nat.reduceLT, and_self, List.foldl_cons, List.foldl_nil, Int.cast_ofNat_Int, Int.natCast_add, slots, wkL_nil, wkL_cons, wkB_nil, wkR_nil, wkV_j, wkV_d, frz_d, reduceCtorEq]
    · obtain rfl : k = l.length := by omega
      rw [List.take_length] at h2
      simp (implicitDefEqProofs := false) (dsimp := false) only [h2, ↓aw_seq, ↓aw_exit, ↓aw_ret, ↓aw_reg, ↓Qseq_n, ↓Qseq_x, ↓Qblk_x, ↓Qret_r, ↓ops_nil, ↓ops_cons, ↓eval_tmp, ↓eval_bool, ↓put_some, ↓op_assign, ↓td_d, ↓ret_1, List.getD_cons_zero, List.getD_cons_succ, List.set_cons_zero, List.set_cons_succ, Nat.reduceAdd, Nat.reduceSub, Nat.reduceMul, evK_go, reduceIte, decide_false, Nat.reduceEqDiff, Nat.reduceLT, Nat.lt_irrefl]
theorem goes_call (l : List (Int × Int)) (a b : Int) (pure : Bool) (σ : St) (dst : Option Tmp) (K : St → Prop) : CallH Tryd.prog 40 [.l (l.map lnD), I .i64 a, I .i64 b] pure σ dst (.mk : Hid K) = OrH ((l.length < 2 ^ 62) ∧ (pure || D.flat (Bo (decide ((a, b) ∈ l)))) = true ∧ evK (σ.put dst (.d (Bo (decide ((a, b) ∈ l))))) (.mk : Hid K)) (.mk : Hid (CallH Tryd.prog 40 [.l (l.map lnD), I .i64 a, I .i64 b] pure σ dst (.mk : Hid K))) := CallH.eq (goes_spec l a b) pure σ dst K
theorem goes_callQ (l : List (Int × Int)) (a b : Int) (pure : Bool) (C : V → Prop) : CallQ Tryd.prog 40 [.l (l.map lnD), I .i64 a, I .i64 b] pure (.mk : Hid C) = OrH ((l.length < 2 ^ 62) ∧ (pure || D.flat (Bo (decide ((a, b) ∈ l)))) = true ∧ evK (V.d (Bo (decide ((a, b) ∈ l)))) (.mk : Hid C)) (.mk : Hid (CallQ Tryd.prog 40 [.l (l.map lnD), I .i64 a, I .i64 b] pure (.mk : Hid C))) := CallQ.eq (goes_spec l a b) pure C
end Go.Proofs

namespace Go.Proofs
open Go.Aw
set_option linter.unusedSimpArgs false
def two (fs : List Field) : Bool := match fs with
  | [f0, f1] => f0.name != "_" && f1.name != "_" && f0.type == 3 && f1.type == 3 && f0.offset == 0 && f1.offset == 1
  | _ => false
theorem u35 : Tryd.prog.underlying 41 = some (.struct (Tryd.prog.fieldsOf 41)) := by kernel_rfl
theorem st35 : Tryd.prog.stoodInHeld 41 = false := by kernel_rfl
theorem eg35 : Tryd.prog.eqGuardType Tryd.prog.depth 41 = false := by kernel_rfl
theorem two35 : two (Tryd.prog.fieldsOf 41).toList = true := by kernel_rfl
theorem ag3 : Tryd.prog.underlying 3 = some (.int .i64) := by kernel_rfl
theorem part3 (w : World) (cs : Array Value) (i : Nat) (v : Value) (h : cs[i]? = some v) : (Go.part 3 cs i).run Tryd.prog w = .ok v w := by
  simp [Go.part, isAgg, run_underlying ag3, h]
theorem eq35 (w : World) (d : Nat) (a b c e : Int) : (Op.equalIn (d + 2) 41 (.agg #[.int .i64 a, .int .i64 b]) (.agg #[.int .i64 c, .int .i64 e])).run Tryd.prog w = .ok (decide (a = c ∧ b = e)) w := by
  rw [run_equalIn_struct w (d + 1) 41 _ _ u35 st35]
  have h := two35
  generalize (Tryd.prog.fieldsOf 41).toList = fs at h
  unfold two at h
  split at h
  · rename_i f0 f1
    simp (implicitDefEqProofs := false) (dsimp := false) only [Bool.and_eq_true, bne_iff_ne, beq_iff_eq] at h
    obtain ⟨⟨⟨⟨⟨h1, h2⟩, h3⟩, h4⟩, h5⟩, h6⟩ := h
    simp (implicitDefEqProofs := false) (dsimp := false) only [Op.eqFields, h1, h2, ne_eq, not_false_eq_true, if_true, h3, h4, h5, h6, Sem.run_bind]
    rw [part3 w _ 0 (.int .i64 a) rfl, Result.andThen_ok, part3 w _ 0 (.int .i64 c) rfl, Result.andThen_ok, run_equalIn_int w d 3 .i64 .i64 a c ag3, Result.andThen_ok]
    by_cases hac : a = c
    · subst hac
      simp (implicitDefEqProofs := false) (dsimp := false) only [beq_self_eq_true, Bool.not_true, Bool.false_eq_true, if_false, Sem.run_bind]
      rw [part3 w _ 1 (.int .i64 b) rfl, Result.andThen_ok, part3 w _ 1 (.int .i64 e) rfl, Result.andThen_ok, run_equalIn_int w d 3 .i64 .i64 b e ag3, Result.andThen_ok]
      by_cases hbe : b = e
      · subst hbe; simp
      · simp [hbe]
    · simp [hac]
  · cases h
theorem bin35 {op : BinOp} (ho : op = .eql ∨ op = .neq) (x y : Operand) (a b c e : Int) : ∀ r, r = (if op = .eql then decide (a = c ∧ b = e) else !decide (a = c ∧ b = e)) → BinC Tryd.prog op 41 x y (.agg #[.int .i64 a, .int .i64 b]) (.agg #[.int .i64 c, .int .i64 e]) (.bool r) := fun r hr w => by
  have hg : (eqGuard op 41 x y (.agg #[.int .i64 a, .int .i64 b]) (.agg #[.int .i64 c, .int .i64 e])).run Tryd.prog w = .ok () w := by
    rcases ho with rfl | rfl <;> simp [eqGuard, eg35]
  rw [Sem.run_bind, hg, Result.andThen_ok, hr]
  rcases ho with rfl | rfl
  · show (do pure (.bool (← Op.equal 41 _ _)) : Sem Value).run Tryd.prog w = _
    simp [Op.equal, Op.maxDepth, eq35 w 9998]
  · show (do pure (.bool (!(← Op.equal 41 _ _))) : Sem Value).run Tryd.prog w = _
    simp [Op.equal, Op.maxDepth, eq35 w 9998]
theorem ln_neq (x y : Operand) (a b c e : Int) (C : V → Prop) : binE Tryd.prog .neq 41 x y (.d (.s [I .i64 a, I .i64 b])) (.d (.s [I .i64 c, I .i64 e])) C = C (.d (Bo (!decide (a = c ∧ b = e)))) :=
  binX (bin35 (.inr rfl) x y a b c e _ rfl) C
theorem ln_eql (x y : Operand) (a b c e : Int) (C : V → Prop) : binE Tryd.prog .eql 41 x y (.d (.s [I .i64 a, I .i64 b])) (.d (.s [I .i64 c, I .i64 e])) C = C (.d (Bo (decide (a = c ∧ b = e)))) :=
  binX (bin35 (.inl rfl) x y a b c e _ rfl) C
end Go.Proofs

namespace Go.Proofs
open Go.Aw
set_option linter.unusedSimpArgs false
set_option maxRecDepth 10000
theorem eq_step {α : Type} [Inhabited α] {a b : List α} {k : Nat} (hl : a.length = b.length) (h : k < a.length) (h0 : a.take k = b.take k) : (a.getD k default = b.getD k default → a.take (k + 1) = b.take (k + 1)) ∧ (a.getD k default ≠ b.getD k default → a ≠ b) :=
  ⟨fun e => by rw [take_succ_getD h, take_succ_getD (by omega), h0, e], fun e e' => e (by rw [e'])⟩
/-- A list of numbers as data. -/
def liD (x : List Int) : D := .l (x.map (I .i64))
theorem liD_one (x : List Int) : D.one (liD x) = true := rfl
theorem ints_spec (a b : List Int) (hpre : a.length < 2 ^ 62) : FnD Tryd.prog 25 [.l (a.map (I .i64)), .l (b.map (I .i64))] (Bo (decide (a = b))) := by
  refine FnD.go Tryd.func25 rfl rfl Tryd.results25 Tryd.ntmps25 ?_
  simp (implicitDefEqProofs := false) (dsimp := false) only [↓cdK_not, ↓aw_cond, ↓aw_seq, ↓aw_reg, ↓Qseq_n, ↓ops_nil, ↓ops_cons, ↓eval_tmp, ↓eval_bool, ↓put_some, ↓bK_b, ↓lenK_l, ↓binE_i, ↓bi_neq, ↓op_move, ↓op_assign, ↓op_bin, ↓op_len, ↓sl24, List.getD_cons_zero, List.getD_cons_succ, List.set_cons_zero, List.set_cons_succ, List.cons_append, List.nil_append, List.map_cons, List.map_nil, List.length_cons, List.length_nil, List.length_map, Nat.reduceAdd, Nat.reduceSub, Nat.reduceMul, Nat.zero_add, List.replicate, evK_go, reduceIte, Nat.reduceEqDiff, Nat.reduceLT, Int.zero_add, Int.natCast_inj]
  refine cdK_dec (fun hl => ?_) (fun hl => ?_)
  rotate_left
  · have : a ≠ b := fun e => hl (by rw [e])
    simp (implicitDefEqProofs := false) (dsimp := false) only [this, ↓aw_seq, ↓aw_ret, ↓aw_reg, ↓Qseq_n, ↓Qseq_r, ↓Qret_r, ↓ops_nil, ↓ops_cons, ↓eval_tmp, ↓eval_bool, ↓put_some, ↓op_assign, ↓td_d, ↓ret_1, List.getD_cons_zero, List.getD_cons_succ, List.set_cons_zero, List.set_cons_succ, Nat.reduceAdd, Nat.reduceSub, Nat.reduceMul, evK_go, reduceIte, decide_false, Nat.reduceEqDiff, Nat.reduceLT]
  simp (implicitDefEqProofs := false) (dsimp := false) only [↓aw_seq, ↓aw_block, ↓aw_skip, ↓aw_loop, ↓aw_reg, ↓Qseq_n, ↓ops_nil, ↓ops_cons, ↓eval_int, ↓put_some, ↓op_assign, List.set_cons_zero, List.set_cons_succ, Nat.reduceAdd, Nat.reduceSub, Nat.reduceMul, evK_go, reduceIte, Nat.reduceEqDiff, Nat.reduceLT]
  refine loopW (fun k : Nat => { tm := slots 26 [(0, .d (.l (a.map (I .i64)))), (1, .d (.l (b.map (I .i64)))), (5, .d (I .i64 k))], bx := [], rw := [] })
    (fun k => k ≤ a.length ∧ a.take k = b.take k) (fun k => a.length - k) 0 ⟨by simp, by simp⟩ ?_ ?_
  · refine Wkn.of [] [] ?_
    simp (implicitDefEqProofs := false) (dsimp := false) only [List.set_cons_zero, List.set_cons_succ, Bool.and_self, Nat.reduceAdd, Nat.reduceSub, Nat.reduceMul, List.replicate, evK_go, reduceIte, Nat.reduceEqDiff, Nat.reduceLT, and_self, List.foldl_cons, List.foldl_nil, Int.cast_ofNat_Int, slots, wkL_nil, wkL_cons, wkB_nil, wkR_nil, wkV_j, wkV_d, frz_d, reduceCtorEq]
  · rintro k ⟨h1, h2⟩
    simp (implicitDefEqProofs := false) (dsimp := false) only [slots, ↓aw_cond, ↓aw_seq, ↓aw_reg, ↓Qseq_n, ↓ops_nil, ↓ops_cons, ↓eval_tmp, ↓put_some, ↓bK_b, ↓lenK_l, ↓binE_i, ↓bi_lss, ↓op_move, ↓op_bin, ↓op_len, ↓sl24, List.getD_cons_zero, List.getD_cons_succ, List.set_cons_zero, List.set_cons_succ, List.length_map, Nat.reduceAdd, Nat.reduceSub, Nat.reduceMul, List.replicate, evK_go, reduceIte, Nat.reduceEqDiff, Nat.reduceLT, List.foldl_cons, List.foldl_nil, Int.ofNat_lt]
    refine cdK_dec (fun h => ?_) (fun h => ?_)
    · obtain ⟨g1, g2⟩ := eq_step hl h h2
      have hkb : k < b.length := by omega
      have hlen : a.length < 2 ^ 62 := hpre
      
      simp (implicitDefEqProofs := false) (dsimp := false) only [h, hkb, ↓cdK_not, ↓atK_H, ↓atH_map, ↓aw_cond, ↓aw_seq, ↓aw_block, ↓aw_skip, ↓aw_draw, ↓Qseq_n, ↓eval_tmp, ↓put_some, ↓bK_b, ↓iK_i, ↓ev_move, ↓ev_load, ↓ev_bin, ↓ev_ia, ↓binE_i, ↓bi_neq, ↓ldK_q, ↓iaK_l, ↓draw_H, ↓h_nil, ↓h_cons, ↓ldH_n, ↓q_move, ↓q_load, ↓q_bin, ↓q_ia, ↓il_move, ↓il_load, ↓il_bin, ↓il_ia, ↓cells_c, ↓hd_cons, ↓ty3, ↓sl24, List.getD_cons_zero, List.getD_cons_succ, List.set_cons_zero, List.set_cons_succ, List.length_cons, List.length_nil, Bool.true_and, Nat.reduceAdd, Nat.reduceSub, Nat.reduceMul, Nat.zero_add, Int.toNat_natCast, evK_go, reduceIte, decide_true, Nat.reduceEqDiff, Nat.reduceLT, true_and, Int.zero_add, Int.natCast_nonneg]
      refine OrH.l ⟨DrawH.of follows_mixed (by kernel_rfl), ?_⟩
      refine cdK_dec (fun hb => ?_) (fun hb => ?_)
      · simp (implicitDefEqProofs := false) (dsimp := false) only [↓aw_skip, ↓aw_reg, ↓Qseq_n, ↓Qblk_n, ↓ops_nil, ↓ops_cons, ↓eval_tmp, ↓eval_int, ↓put_some, ↓binE_i, ↓bi_add, ↓in_i64, ↓op_move, ↓op_assign, ↓op_bin, List.getD_cons_zero, List.getD_cons_succ, List.set_cons_zero, List.set_cons_succ, Nat.reduceAdd, Nat.reduceSub, Nat.reduceMul, evK_go, reduceIte, Nat.reduceEqDiff, Nat.reduceLT]
        refine ⟨by omega, k + 1, ⟨by omega, g1 hb⟩, by omega, ?_⟩
        refine Wkn.of [] [] ?_
        simp (implicitDefEqProofs := false) (dsimp := false) only [List.set_cons_zero, List.set_cons_succ, Bool.and_self, Nat.reduceAdd, Nat.reduceSub, Nat.reduceMul, List.replicate, evK_go, reduceIte, Nat.reduceEqDiff, Nat.reduceLT, and_self, List.foldl_cons, List.foldl_nil, Int.cast_ofNat_Int, Int.natCast_add, slots, wkL_nil, wkL_cons, wkB_nil, wkR_nil, wkV_j, wkV_d, frz_d, reduceCtorEq]
      · simp (implicitDefEqProofs := false) (dsimp := false) only [g2 hb, ↓aw_seq, ↓aw_ret, ↓aw_reg, ↓Qseq_n, ↓Qseq_r, ↓Qblk_r, ↓Qret_r, ↓ops_nil, ↓ops_cons, ↓eval_tmp, ↓eval_bool, ↓put_some, ↓op_assign, ↓td_d, ↓ret_1, List.getD_cons_zero, List.getD_cons_succ, List.set_cons_zero, List.set_cons_succ, Nat.reduceAdd, Nat.reduceSub, Nat.reduceMul, evK_go, reduceIte, decide_false, Nat.reduceEqDiff, Nat.reduceLT]
    · obtain rfl : k = a.length := by omega
      have : a = b := by rw [List.take_length, hl, List.take_length] at h2; exact h2
      simp (implicitDefEqProofs := false) (dsimp := false) only [this, ↓aw_seq, ↓aw_exit, ↓aw_ret, ↓aw_reg, ↓Qseq_n, ↓Qseq_x, ↓Qblk_x, ↓Qret_r, ↓ops_nil, ↓ops_cons, ↓eval_tmp, ↓eval_bool, ↓put_some, ↓op_assign, ↓td_d, ↓ret_1, List.getD_cons_zero, List.getD_cons_succ, List.set_cons_zero, List.set_cons_succ, Nat.reduceAdd, Nat.reduceSub, Nat.reduceMul, evK_go, reduceIte, decide_true, decide_false, Nat.reduceEqDiff, Nat.reduceLT, Nat.lt_irrefl]
theorem ints_call (a b : List Int) (pure : Bool) (σ : St) (dst : Option Tmp) (K : St → Prop) : CallH Tryd.prog 25 [.l (a.map (I .i64)), .l (b.map (I .i64))] pure σ dst (.mk : Hid K) = OrH ((a.length < 2 ^ 62) ∧ (pure || D.flat (Bo (decide (a = b)))) = true ∧ evK (σ.put dst (.d (Bo (decide (a = b))))) (.mk : Hid K)) (.mk : Hid (CallH Tryd.prog 25 [.l (a.map (I .i64)), .l (b.map (I .i64))] pure σ dst (.mk : Hid K))) := CallH.eq (ints_spec a b) pure σ dst K
theorem ints_callQ (a b : List Int) (pure : Bool) (C : V → Prop) : CallQ Tryd.prog 25 [.l (a.map (I .i64)), .l (b.map (I .i64))] pure (.mk : Hid C) = OrH ((a.length < 2 ^ 62) ∧ (pure || D.flat (Bo (decide (a = b)))) = true ∧ evK (V.d (Bo (decide (a = b)))) (.mk : Hid C)) (.mk : Hid (CallQ Tryd.prog 25 [.l (a.map (I .i64)), .l (b.map (I .i64))] pure (.mk : Hid C))) := CallQ.eq (ints_spec a b) pure C

theorem bools_spec (a b : List Bool) (hpre : a.length < 2 ^ 62) : FnD Tryd.prog 47 [.l (a.map Bo), .l (b.map Bo)] (Bo (decide (a = b))) := by
  refine FnD.go Tryd.func47 rfl rfl Tryd.results47 Tryd.ntmps47 ?_
  simp (implicitDefEqProofs := false) (dsimp := false) only [↓cdK_not, ↓aw_cond, ↓aw_seq, ↓aw_reg, ↓Qseq_n, ↓ops_nil, ↓ops_cons, ↓eval_tmp, ↓eval_bool, ↓put_some, ↓bK_b, ↓lenK_l, ↓binE_i, ↓bi_neq, ↓op_move, ↓op_assign, ↓op_bin, ↓op_len, ↓sl46, List.getD_cons_zero, List.getD_cons_succ, List.set_cons_zero, List.set_cons_succ, List.cons_append, List.nil_append, List.map_cons, List.map_nil, List.length_cons, List.length_nil, List.length_map, Nat.reduceAdd, Nat.reduceSub, Nat.reduceMul, Nat.zero_add, List.replicate, evK_go, reduceIte, Nat.reduceEqDiff, Nat.reduceLT, Int.zero_add, Int.natCast_inj]
  refine cdK_dec (fun hl => ?_) (fun hl => ?_)
  rotate_left
  · have : a ≠ b := fun e => hl (by rw [e])
    simp (implicitDefEqProofs := false) (dsimp := false) only [this, ↓aw_seq, ↓aw_ret, ↓aw_reg, ↓Qseq_n, ↓Qseq_r, ↓Qret_r, ↓ops_nil, ↓ops_cons, ↓eval_tmp, ↓eval_bool, ↓put_some, ↓op_assign, ↓td_d, ↓ret_1, List.getD_cons_zero, List.getD_cons_succ, List.set_cons_zero, List.set_cons_succ, Nat.reduceAdd, Nat.reduceSub, Nat.reduceMul, evK_go, reduceIte, decide_false, Nat.reduceEqDiff, Nat.reduceLT]
  simp (implicitDefEqProofs := false) (dsimp := false) only [↓aw_seq, ↓aw_block, ↓aw_skip, ↓aw_loop, ↓aw_reg, ↓Qseq_n, ↓ops_nil, ↓ops_cons, ↓eval_int, ↓put_some, ↓op_assign, List.set_cons_zero, List.set_cons_succ, Nat.reduceAdd, Nat.reduceSub, Nat.reduceMul, evK_go, reduceIte, Nat.reduceEqDiff, Nat.reduceLT]
  refine loopW (fun k : Nat => { tm := slots 26 [(0, .d (.l (a.map Bo))), (1, .d (.l (b.map Bo))), (5, .d (I .i64 k))], bx := [], rw := [] })
    (fun k => k ≤ a.length ∧ a.take k = b.take k) (fun k => a.length - k) 0 ⟨by simp, by simp⟩ ?_ ?_
  · refine Wkn.of [] [] ?_
    simp (implicitDefEqProofs := false) (dsimp := false) only [List.set_cons_zero, List.set_cons_succ, Bool.and_self, Nat.reduceAdd, Nat.reduceSub, Nat.reduceMul, List.replicate, evK_go, reduceIte, Nat.reduceEqDiff, Nat.reduceLT, and_self, List.foldl_cons, List.foldl_nil, Int.cast_ofNat_Int, slots, wkL_nil, wkL_cons, wkB_nil, wkR_nil, wkV_j, wkV_d, frz_d, reduceCtorEq]
  · rintro k ⟨h1, h2⟩
    simp (implicitDefEqProofs := false) (dsimp := false) only [slots, ↓aw_cond, ↓aw_seq, ↓aw_reg, ↓Qseq_n, ↓ops_nil, ↓ops_cons, ↓eval_tmp, ↓put_some, ↓bK_b, ↓lenK_l, ↓binE_i, ↓bi_lss, ↓op_move, ↓op_bin, ↓op_len, ↓sl46, List.getD_cons_zero, List.getD_cons_succ, List.set_cons_zero, List.set_cons_succ, List.length_map, Nat.reduceAdd, Nat.reduceSub, Nat.reduceMul, List.replicate, evK_go, reduceIte, Nat.reduceEqDiff, Nat.reduceLT, List.foldl_cons, List.foldl_nil, Int.ofNat_lt]
    refine cdK_dec (fun h => ?_) (fun h => ?_)
    · obtain ⟨g1, g2⟩ := eq_step hl h h2
      have hkb : k < b.length := by omega
      have hlen : a.length < 2 ^ 62 := hpre
      
      simp (implicitDefEqProofs := false) (dsimp := false) only [h, hkb, ↓bo_neq, ↓cdK_not, ↓atK_H, ↓atH_map, ↓aw_cond, ↓aw_seq, ↓aw_block, ↓aw_skip, ↓aw_draw, ↓Qseq_n, ↓eval_tmp, ↓put_some, ↓bK_b, ↓iK_i, ↓ev_move, ↓ev_load, ↓ev_bin, ↓ev_ia, ↓ldK_q, ↓iaK_l, ↓draw_H, ↓h_nil, ↓h_cons, ↓ldH_n, ↓q_move, ↓q_load, ↓q_bin, ↓q_ia, ↓il_move, ↓il_load, ↓il_bin, ↓il_ia, ↓cells_c, ↓hd_cons, ↓ty4, ↓sl46, List.getD_cons_zero, List.getD_cons_succ, List.set_cons_zero, List.set_cons_succ, List.length_cons, List.length_nil, Bool.true_and, Nat.reduceAdd, Nat.reduceSub, Nat.reduceMul, Nat.zero_add, Int.toNat_natCast, evK_go, reduceIte, decide_true, Nat.reduceEqDiff, Nat.reduceLT, true_and, Int.zero_add, Int.natCast_nonneg]
      refine OrH.l ⟨DrawH.of follows_mixed (by kernel_rfl), ?_⟩
      refine cdK_split (fun hb => ?_) (fun hb => ?_)
      · have hb : a.getD k default = b.getD k default := by simpa using hb
        simp (implicitDefEqProofs := false) (dsimp := false) only [↓aw_skip, ↓aw_reg, ↓Qseq_n, ↓Qblk_n, ↓ops_nil, ↓ops_cons, ↓eval_tmp, ↓eval_int, ↓put_some, ↓binE_i, ↓bi_add, ↓in_i64, ↓op_move, ↓op_assign, ↓op_bin, List.getD_cons_zero, List.getD_cons_succ, List.set_cons_zero, List.set_cons_succ, Nat.reduceAdd, Nat.reduceSub, Nat.reduceMul, evK_go, reduceIte, Nat.reduceEqDiff, Nat.reduceLT]
        refine ⟨by omega, k + 1, ⟨by omega, g1 hb⟩, by omega, ?_⟩
        refine Wkn.of [] [] ?_
        simp (implicitDefEqProofs := false) (dsimp := false) only [List.set_cons_zero, List.set_cons_succ, Bool.and_self, Nat.reduceAdd, Nat.reduceSub, Nat.reduceMul, List.replicate, evK_go, reduceIte, Nat.reduceEqDiff, Nat.reduceLT, and_self, List.foldl_cons, List.foldl_nil, Int.cast_ofNat_Int, Int.natCast_add, slots, wkL_nil, wkL_cons, wkB_nil, wkR_nil, wkV_j, wkV_d, frz_d, reduceCtorEq]
      · have hb : a.getD k default ≠ b.getD k default := by simpa using hb
        simp (implicitDefEqProofs := false) (dsimp := false) only [g2 hb, ↓aw_seq, ↓aw_ret, ↓aw_reg, ↓Qseq_n, ↓Qseq_r, ↓Qblk_r, ↓Qret_r, ↓ops_nil, ↓ops_cons, ↓eval_tmp, ↓eval_bool, ↓put_some, ↓op_assign, ↓td_d, ↓ret_1, List.getD_cons_zero, List.getD_cons_succ, List.set_cons_zero, List.set_cons_succ, Nat.reduceAdd, Nat.reduceSub, Nat.reduceMul, evK_go, reduceIte, decide_false, Nat.reduceEqDiff, Nat.reduceLT]
    · obtain rfl : k = a.length := by omega
      have : a = b := by rw [List.take_length, hl, List.take_length] at h2; exact h2
      simp (implicitDefEqProofs := false) (dsimp := false) only [this, ↓aw_seq, ↓aw_exit, ↓aw_ret, ↓aw_reg, ↓Qseq_n, ↓Qseq_x, ↓Qblk_x, ↓Qret_r, ↓ops_nil, ↓ops_cons, ↓eval_tmp, ↓eval_bool, ↓put_some, ↓op_assign, ↓td_d, ↓ret_1, List.getD_cons_zero, List.getD_cons_succ, List.set_cons_zero, List.set_cons_succ, Nat.reduceAdd, Nat.reduceSub, Nat.reduceMul, evK_go, reduceIte, decide_true, decide_false, Nat.reduceEqDiff, Nat.reduceLT, Nat.lt_irrefl]
theorem bools_call (a b : List Bool) (pure : Bool) (σ : St) (dst : Option Tmp) (K : St → Prop) : CallH Tryd.prog 47 [.l (a.map Bo), .l (b.map Bo)] pure σ dst (.mk : Hid K) = OrH ((a.length < 2 ^ 62) ∧ (pure || D.flat (Bo (decide (a = b)))) = true ∧ evK (σ.put dst (.d (Bo (decide (a = b))))) (.mk : Hid K)) (.mk : Hid (CallH Tryd.prog 47 [.l (a.map Bo), .l (b.map Bo)] pure σ dst (.mk : Hid K))) := CallH.eq (bools_spec a b) pure σ dst K
theorem bools_callQ (a b : List Bool) (pure : Bool) (C : V → Prop) : CallQ Tryd.prog 47 [.l (a.map Bo), .l (b.map Bo)] pure (.mk : Hid C) = OrH ((a.length < 2 ^ 62) ∧ (pure || D.flat (Bo (decide (a = b)))) = true ∧ evK (V.d (Bo (decide (a = b)))) (.mk : Hid C)) (.mk : Hid (CallQ Tryd.prog 47 [.l (a.map Bo), .l (b.map Bo)] pure (.mk : Hid C))) := CallQ.eq (bools_spec a b) pure C

theorem elines_spec (a b : List (Int × Int)) (hpre : a.length < 2 ^ 62) : FnD Tryd.prog 55 [.l (a.map lnD), .l (b.map lnD)] (Bo (decide (a = b))) := by
  refine FnD.go Tryd.func55 rfl rfl Tryd.results55 Tryd.ntmps55 ?_
  simp (implicitDefEqProofs := false) (dsimp := false) only [↓cdK_not, ↓aw_cond, ↓aw_seq, ↓aw_reg, ↓Qseq_n, ↓ops_nil, ↓ops_cons, ↓eval_tmp, ↓eval_bool, ↓put_some, ↓bK_b, ↓lenK_l, ↓binE_i, ↓bi_neq, ↓op_move, ↓op_assign, ↓op_bin, ↓op_len, ↓sl22, List.getD_cons_zero, List.getD_cons_succ, List.set_cons_zero, List.set_cons_succ, List.cons_append, List.nil_append, List.map_cons, List.map_nil, List.length_cons, List.length_nil, List.length_map, Nat.reduceAdd, Nat.reduceSub, Nat.reduceMul, Nat.zero_add, List.replicate, evK_go, reduceIte, Nat.reduceEqDiff, Nat.reduceLT, Int.zero_add, Int.natCast_inj]
  refine cdK_dec (fun hl => ?_) (fun hl => ?_)
  rotate_left
  · have : a ≠ b := fun e => hl (by rw [e])
    simp (implicitDefEqProofs := false) (dsimp := false) only [this, ↓aw_seq, ↓aw_ret, ↓aw_reg, ↓Qseq_n, ↓Qseq_r, ↓Qret_r, ↓ops_nil, ↓ops_cons, ↓eval_tmp, ↓eval_bool, ↓put_some, ↓op_assign, ↓td_d, ↓ret_1, List.getD_cons_zero, List.getD_cons_succ, List.set_cons_zero, List.set_cons_succ, Nat.reduceAdd, Nat.reduceSub, Nat.reduceMul, evK_go, reduceIte, decide_false, Nat.reduceEqDiff, Nat.reduceLT]
  simp (implicitDefEqProofs := false) (dsimp := false) only [↓aw_seq, ↓aw_block, ↓aw_skip, ↓aw_loop, ↓aw_reg, ↓Qseq_n, ↓ops_nil, ↓ops_cons, ↓eval_int, ↓put_some, ↓op_assign, List.set_cons_zero, List.set_cons_succ, Nat.reduceAdd, Nat.reduceSub, Nat.reduceMul, evK_go, reduceIte, Nat.reduceEqDiff, Nat.reduceLT]
  refine loopW (fun k : Nat => { tm := slots 26 [(0, .d (.l (a.map lnD))), (1, .d (.l (b.map lnD))), (5, .d (I .i64 k))], bx := [], rw := [] })
    (fun k => k ≤ a.length ∧ a.take k = b.take k) (fun k => a.length - k) 0 ⟨by simp, by simp⟩ ?_ ?_
  · refine Wkn.of [] [] ?_
    simp (implicitDefEqProofs := false) (dsimp := false) only [List.set_cons_zero, List.set_cons_succ, Bool.and_self, Nat.reduceAdd, Nat.reduceSub, Nat.reduceMul, List.replicate, evK_go, reduceIte, Nat.reduceEqDiff, Nat.reduceLT, and_self, List.foldl_cons, List.foldl_nil, Int.cast_ofNat_Int, slots, wkL_nil, wkL_cons, wkB_nil, wkR_nil, wkV_j, wkV_d, frz_d, reduceCtorEq]
  · rintro k ⟨h1, h2⟩
    simp (implicitDefEqProofs := false) (dsimp := false) only [slots, ↓aw_cond, ↓aw_seq, ↓aw_reg, ↓Qseq_n, ↓ops_nil, ↓ops_cons, ↓eval_tmp, ↓put_some, ↓bK_b, ↓lenK_l, ↓binE_i, ↓bi_lss, ↓op_move, ↓op_bin, ↓op_len, ↓sl22, List.getD_cons_zero, List.getD_cons_succ, List.set_cons_zero, List.set_cons_succ, List.length_map, Nat.reduceAdd, Nat.reduceSub, Nat.reduceMul, List.replicate, evK_go, reduceIte, Nat.reduceEqDiff, Nat.reduceLT, List.foldl_cons, List.foldl_nil, Int.ofNat_lt]
    refine cdK_dec (fun h => ?_) (fun h => ?_)
    · obtain ⟨g1, g2⟩ := eq_step hl h h2
      have hkb : k < b.length := by omega
      have hlen : a.length < 2 ^ 62 := hpre
      
      simp (implicitDefEqProofs := false) (dsimp := false) only [h, hkb, ↓ln_neq, lnD_cells, ↓cdK_not, ↓atK_H, ↓atH_map, ↓aw_cond, ↓aw_seq, ↓aw_block, ↓aw_skip, ↓aw_draw, ↓Qseq_n, ↓eval_tmp, ↓put_some, ↓bK_b, ↓iK_i, ↓ev_move, ↓ev_load, ↓ev_bin, ↓ev_ia, ↓ldK_q, ↓iaK_l, ↓draw_H, ↓h_nil, ↓h_cons, ↓ldH_n, ↓q_move, ↓q_load, ↓q_bin, ↓q_ia, ↓il_move, ↓il_load, ↓il_bin, ↓il_ia, ↓sl22, ↓ty41, List.getD_cons_zero, List.getD_cons_succ, List.set_cons_zero, List.set_cons_succ, List.length_cons, List.length_nil, Bool.true_and, Nat.reduceAdd, Nat.reduceSub, Nat.reduceMul, Nat.zero_add, Int.toNat_natCast, evK_go, reduceIte, decide_true, Nat.reduceEqDiff, Nat.reduceLT, true_and, Int.zero_add, List.take_succ_cons, List.take_nil, Int.natCast_nonneg]
      refine OrH.l ⟨DrawH.of follows_mixed (by kernel_rfl), ?_⟩
      refine ⟨by decide, by decide, ?_⟩
      refine cdK_dec (fun hb => ?_) (fun hb => ?_)
      · have hb : a.getD k default = b.getD k default := Prod.ext hb.1 hb.2
        simp (implicitDefEqProofs := false) (dsimp := false) only [↓aw_skip, ↓aw_reg, ↓Qseq_n, ↓Qblk_n, ↓ops_nil, ↓ops_cons, ↓eval_tmp, ↓eval_int, ↓put_some, ↓binE_i, ↓bi_add, ↓in_i64, ↓op_move, ↓op_assign, ↓op_bin, List.getD_cons_zero, List.getD_cons_succ, List.set_cons_zero, List.set_cons_succ, Nat.reduceAdd, Nat.reduceSub, Nat.reduceMul, evK_go, reduceIte, Nat.reduceEqDiff, Nat.reduceLT]
        refine ⟨by omega, k + 1, ⟨by omega, g1 hb⟩, by omega, ?_⟩
        refine Wkn.of [] [] ?_
        simp (implicitDefEqProofs := false) (dsimp := false) only [List.set_cons_zero, List.set_cons_succ, Bool.and_self, Nat.reduceAdd, Nat.reduceSub, Nat.reduceMul, List.replicate, evK_go, reduceIte, Nat.reduceEqDiff, Nat.reduceLT, and_self, List.foldl_cons, List.foldl_nil, Int.cast_ofNat_Int, Int.natCast_add, slots, wkL_nil, wkL_cons, wkB_nil, wkR_nil, wkV_j, wkV_d, frz_d, reduceCtorEq]
      · have hb : a.getD k default ≠ b.getD k default := fun e => hb (by rw [e]; exact ⟨rfl, rfl⟩)
        simp (implicitDefEqProofs := false) (dsimp := false) only [g2 hb, ↓aw_seq, ↓aw_ret, ↓aw_reg, ↓Qseq_n, ↓Qseq_r, ↓Qblk_r, ↓Qret_r, ↓ops_nil, ↓ops_cons, ↓eval_tmp, ↓eval_bool, ↓put_some, ↓op_assign, ↓td_d, ↓ret_1, List.getD_cons_zero, List.getD_cons_succ, List.set_cons_zero, List.set_cons_succ, Nat.reduceAdd, Nat.reduceSub, Nat.reduceMul, evK_go, reduceIte, decide_false, Nat.reduceEqDiff, Nat.reduceLT]
    · obtain rfl : k = a.length := by omega
      have : a = b := by rw [List.take_length, hl, List.take_length] at h2; exact h2
      simp (implicitDefEqProofs := false) (dsimp := false) only [this, ↓aw_seq, ↓aw_exit, ↓aw_ret, ↓aw_reg, ↓Qseq_n, ↓Qseq_x, ↓Qblk_x, ↓Qret_r, ↓ops_nil, ↓ops_cons, ↓eval_tmp, ↓eval_bool, ↓put_some, ↓op_assign, ↓td_d, ↓ret_1, List.getD_cons_zero, List.getD_cons_succ, List.set_cons_zero, List.set_cons_succ, Nat.reduceAdd, Nat.reduceSub, Nat.reduceMul, evK_go, reduceIte, decide_true, decide_false, Nat.reduceEqDiff, Nat.reduceLT, Nat.lt_irrefl]
theorem elines_call (a b : List (Int × Int)) (pure : Bool) (σ : St) (dst : Option Tmp) (K : St → Prop) : CallH Tryd.prog 55 [.l (a.map lnD), .l (b.map lnD)] pure σ dst (.mk : Hid K) = OrH ((a.length < 2 ^ 62) ∧ (pure || D.flat (Bo (decide (a = b)))) = true ∧ evK (σ.put dst (.d (Bo (decide (a = b))))) (.mk : Hid K)) (.mk : Hid (CallH Tryd.prog 55 [.l (a.map lnD), .l (b.map lnD)] pure σ dst (.mk : Hid K))) := CallH.eq (elines_spec a b) pure σ dst K
theorem elines_callQ (a b : List (Int × Int)) (pure : Bool) (C : V → Prop) : CallQ Tryd.prog 55 [.l (a.map lnD), .l (b.map lnD)] pure (.mk : Hid C) = OrH ((a.length < 2 ^ 62) ∧ (pure || D.flat (Bo (decide (a = b)))) = true ∧ evK (V.d (Bo (decide (a = b)))) (.mk : Hid C)) (.mk : Hid (CallQ Tryd.prog 55 [.l (a.map lnD), .l (b.map lnD)] pure (.mk : Hid C))) := CallQ.eq (elines_spec a b) pure C

theorem erows_spec (a b : List (List Int)) (hpre : a.length < 2 ^ 62 ∧ ∀ x ∈ a, x.length < 2 ^ 62) : FnD Tryd.prog 53 [.l (a.map liD), .l (b.map liD)] (Bo (decide (a = b))) := by
  refine FnD.go Tryd.func53 rfl rfl Tryd.results53 Tryd.ntmps53 ?_
  simp (implicitDefEqProofs := false) (dsimp := false) only [↓cdK_not, ↓aw_cond, ↓aw_seq, ↓aw_reg, ↓Qseq_n, ↓ops_nil, ↓ops_cons, ↓eval_tmp, ↓eval_bool, ↓put_some, ↓bK_b, ↓lenK_l, ↓binE_i, ↓bi_neq, ↓op_move, ↓op_assign, ↓op_bin, ↓op_len, ↓sl69, List.getD_cons_zero, List.getD_cons_succ, List.set_cons_zero, List.set_cons_succ, List.cons_append, List.nil_append, List.map_cons, List.map_nil, List.length_cons, List.length_nil, List.length_map, Nat.reduceAdd, Nat.reduceSub, Nat.reduceMul, Nat.zero_add, List.replicate, evK_go, reduceIte, Nat.reduceEqDiff, Nat.reduceLT, Int.zero_add, Int.natCast_inj]
  refine cdK_dec (fun hl => ?_) (fun hl => ?_)
  rotate_left
  · have : a ≠ b := fun e => hl (by rw [e])
    simp (implicitDefEqProofs := false) (dsimp := false) only [this, ↓aw_seq, ↓aw_ret, ↓aw_reg, ↓Qseq_n, ↓Qseq_r, ↓Qret_r, ↓ops_nil, ↓ops_cons, ↓eval_tmp, ↓eval_bool, ↓put_some, ↓op_assign, ↓td_d, ↓ret_1, List.getD_cons_zero, List.getD_cons_succ, List.set_cons_zero, List.set_cons_succ, Nat.reduceAdd, Nat.reduceSub, Nat.reduceMul, evK_go, reduceIte, decide_false, Nat.reduceEqDiff, Nat.reduceLT]
  simp (implicitDefEqProofs := false) (dsimp := false) only [↓aw_seq, ↓aw_block, ↓aw_skip, ↓aw_loop, ↓aw_reg, ↓Qseq_n, ↓ops_nil, ↓ops_cons, ↓eval_int, ↓put_some, ↓op_assign, List.set_cons_zero, List.set_cons_succ, Nat.reduceAdd, Nat.reduceSub, Nat.reduceMul, evK_go, reduceIte, Nat.reduceEqDiff, Nat.reduceLT]
  refine loopW (fun k : Nat => { tm := slots 27 [(0, .d (.l (a.map liD))), (1, .d (.l (b.map liD))), (5, .d (I .i64 k))], bx := [], rw := [] })
    (fun k => k ≤ a.length ∧ a.take k = b.take k) (fun k => a.length - k) 0 ⟨by simp, by simp⟩ ?_ ?_
  · refine Wkn.of [] [] ?_
    simp (implicitDefEqProofs := false) (dsimp := false) only [List.set_cons_zero, List.set_cons_succ, Bool.and_self, Nat.reduceAdd, Nat.reduceSub, Nat.reduceMul, List.replicate, evK_go, reduceIte, Nat.reduceEqDiff, Nat.reduceLT, and_self, List.foldl_cons, List.foldl_nil, Int.cast_ofNat_Int, slots, wkL_nil, wkL_cons, wkB_nil, wkR_nil, wkV_j, wkV_d, frz_d, reduceCtorEq]
  · rintro k ⟨h1, h2⟩
    simp (implicitDefEqProofs := false) (dsimp := false) only [slots, ↓aw_cond, ↓aw_seq, ↓aw_reg, ↓Qseq_n, ↓ops_nil, ↓ops_cons, ↓eval_tmp, ↓put_some, ↓bK_b, ↓lenK_l, ↓binE_i, ↓bi_lss, ↓op_move, ↓op_bin, ↓op_len, ↓sl69, List.getD_cons_zero, List.getD_cons_succ, List.set_cons_zero, List.set_cons_succ, List.length_map, Nat.reduceAdd, Nat.reduceSub, Nat.reduceMul, List.replicate, evK_go, reduceIte, Nat.reduceEqDiff, Nat.reduceLT, List.foldl_cons, List.foldl_nil, Int.ofNat_lt]
    refine cdK_dec (fun h => ?_) (fun h => ?_)
    · obtain ⟨g1, g2⟩ := eq_step hl h h2
      have hkb : k < b.length := by omega
      have hlen : a.length < 2 ^ 62 := hpre.1
      have hak := hpre.2 _ (getD_mem h)
      simp (implicitDefEqProofs := false) (dsimp := false) only [h, hkb, ints_callQ, liD, ↓cdK_not, ↓atK_H, ↓atH_map, ↓aw_cond, ↓aw_seq, ↓aw_block, ↓aw_skip, ↓aw_draw, ↓Qseq_n, ↓eval_tmp, ↓eval_func, ↓put_some, ↓bK_b, ↓iK_i, ↓ev_move, ↓ev_load, ↓ev_not, ↓ev_ia, ↓ldK_q, ↓iaK_l, isD_d, ↓fnK_f, ↓callKQ_H, ↓allT_nil, ↓allT_cons, ↓td_d, ↓draw_H, ↓h_nil, ↓h_cons, ↓ldH_n, ↓q_call, ↓q_move, ↓q_load, ↓q_un, ↓q_ia, ↓il_move, ↓il_load, ↓il_un, ↓il_ia, ↓il_call, ↓cells_l, ↓hd_cons, ↓ty24, ↓sl69, List.getD_cons_zero, List.getD_cons_succ, List.set_cons_zero, List.set_cons_succ, List.append_nil, List.length_cons, List.length_nil, List.all_cons, List.all_nil, Bool.true_and, Bool.and_self, Bool.true_or, Nat.reduceAdd, Nat.reduceSub, Nat.reduceMul, Nat.zero_add, Int.toNat_natCast, evK_go, reduceIte, decide_true, Nat.reduceEqDiff, Nat.reduceLT, and_self, true_and, Int.zero_add, Int.natCast_nonneg]
      refine OrH.l ⟨DrawH.of follows_mixed (by kernel_rfl), ?_⟩
      refine OrH.l (OrH.l ⟨hak, ?_⟩)
      refine cdK_split (fun hb => ?_) (fun hb => ?_)
      · have hb := of_decide_eq_true hb
        simp (implicitDefEqProofs := false) (dsimp := false) only [↓aw_skip, ↓aw_reg, ↓Qseq_n, ↓Qblk_n, ↓ops_nil, ↓ops_cons, ↓eval_tmp, ↓eval_int, ↓put_some, ↓binE_i, ↓bi_add, ↓in_i64, ↓op_move, ↓op_assign, ↓op_bin, List.getD_cons_zero, List.getD_cons_succ, List.set_cons_zero, List.set_cons_succ, Nat.reduceAdd, Nat.reduceSub, Nat.reduceMul, evK_go, reduceIte, Nat.reduceEqDiff, Nat.reduceLT]
        refine ⟨by omega, k + 1, ⟨by omega, g1 hb⟩, by omega, ?_⟩
        refine Wkn.of [] [] ?_
        simp (implicitDefEqProofs := false) (dsimp := false) only [List.set_cons_zero, List.set_cons_succ, Bool.and_self, Nat.reduceAdd, Nat.reduceSub, Nat.reduceMul, List.replicate, evK_go, reduceIte, Nat.reduceEqDiff, Nat.reduceLT, and_self, List.foldl_cons, List.foldl_nil, Int.cast_ofNat_Int, Int.natCast_add, slots, wkL_nil, wkL_cons, wkB_nil, wkR_nil, wkV_j, wkV_d, frz_d, reduceCtorEq]
      · have hb := of_decide_eq_false hb
        simp (implicitDefEqProofs := false) (dsimp := false) only [g2 hb, ↓aw_seq, ↓aw_ret, ↓aw_reg, ↓Qseq_n, ↓Qseq_r, ↓Qblk_r, ↓Qret_r, ↓ops_nil, ↓ops_cons, ↓eval_tmp, ↓eval_bool, ↓put_some, ↓op_assign, ↓td_d, ↓ret_1, List.getD_cons_zero, List.getD_cons_succ, List.set_cons_zero, List.set_cons_succ, Nat.reduceAdd, Nat.reduceSub, Nat.reduceMul, evK_go, reduceIte, decide_false, Nat.reduceEqDiff, Nat.reduceLT]
    · obtain rfl : k = a.length := by omega
      have : a = b := by rw [List.take_length, hl, List.take_length] at h2; exact h2
      simp (implicitDefEqProofs := false) (dsimp := false) only [this, ↓aw_seq, ↓aw_exit, ↓aw_ret, ↓aw_reg, ↓Qseq_n, ↓Qseq_x, ↓Qblk_x, ↓Qret_r, ↓ops_nil, ↓ops_cons, ↓eval_tmp, ↓eval_bool, ↓put_some, ↓op_assign, ↓td_d, ↓ret_1, List.getD_cons_zero, List.getD_cons_succ, List.set_cons_zero, List.set_cons_succ, Nat.reduceAdd, Nat.reduceSub, Nat.reduceMul, evK_go, reduceIte, decide_true, decide_false, Nat.reduceEqDiff, Nat.reduceLT, Nat.lt_irrefl]
theorem erows_call (a b : List (List Int)) (pure : Bool) (σ : St) (dst : Option Tmp) (K : St → Prop) : CallH Tryd.prog 53 [.l (a.map liD), .l (b.map liD)] pure σ dst (.mk : Hid K) = OrH ((a.length < 2 ^ 62 ∧ ∀ x ∈ a, x.length < 2 ^ 62) ∧ (pure || D.flat (Bo (decide (a = b)))) = true ∧ evK (σ.put dst (.d (Bo (decide (a = b))))) (.mk : Hid K)) (.mk : Hid (CallH Tryd.prog 53 [.l (a.map liD), .l (b.map liD)] pure σ dst (.mk : Hid K))) := CallH.eq (erows_spec a b) pure σ dst K
theorem erows_callQ (a b : List (List Int)) (pure : Bool) (C : V → Prop) : CallQ Tryd.prog 53 [.l (a.map liD), .l (b.map liD)] pure (.mk : Hid C) = OrH ((a.length < 2 ^ 62 ∧ ∀ x ∈ a, x.length < 2 ^ 62) ∧ (pure || D.flat (Bo (decide (a = b)))) = true ∧ evK (V.d (Bo (decide (a = b)))) (.mk : Hid C)) (.mk : Hid (CallQ Tryd.prog 53 [.l (a.map liD), .l (b.map liD)] pure (.mk : Hid C))) := CallQ.eq (erows_spec a b) pure C
end Go.Proofs

namespace Go.Proofs
open Go.Aw
set_option linter.unusedSimpArgs false
set_option maxRecDepth 10000
/-- All but one. -/
def butK {α : Type} [Inhabited α] (l : List α) (k : Int) (i : Nat) : List α := ((List.range i).filter fun j : Nat => !decide ((j : Int) = k)).map fun j => l.getD j default
def butL {α : Type} [Inhabited α] (l : List α) (k : Int) : List α := butK l k l.length
theorem butK_succ {α : Type} [Inhabited α] (l : List α) (k : Int) (i : Nat) : butK l k (i + 1) = if (i : Int) = k then butK l k i else butK l k i ++ [l.getD i default] := by
  unfold butK
  rw [List.range_succ, List.filter_append, List.map_append]
  by_cases h : (i : Int) = k <;> simp [h]
theorem butK_len {α : Type} [Inhabited α] (l : List α) (k : Int) (i : Nat) : (butK l k i).length ≤ i := by
  unfold butK
  rw [List.length_map]
  exact Nat.le_trans (List.length_filter_le _ _) (by simp)
theorem but_mem {α : Type} [Inhabited α] {l : List α} {k : Int} {x : α} (h : x ∈ butL l k) : x ∈ l := by
  obtain ⟨j, hj, rfl⟩ := List.mem_map.1 h
  exact getD_mem (by simpa using (List.mem_filter.1 hj).1)
theorem but_map {α β : Type} [Inhabited α] [Inhabited β] (f : α → β) (l : List α) (k : Int) : butL (l.map f) k = (butL l k).map f := by
  unfold butL butK
  rw [List.length_map, List.map_map]
  refine List.map_congr_left fun j hj => ?_
  have : j < l.length := by simpa using (List.mem_filter.1 hj).1
  simp [List.getD_eq_getElem?_getD, this]
theorem but_erase {α : Type} [Inhabited α] (l : List α) (k : Nat) (hk : k < l.length) : butL l (k : Int) = l.eraseIdx k := by
  have key : ∀ i, i ≤ l.length → butK l (k : Int) i = if k < i then (l.take i).eraseIdx k else l.take i := by
    intro i
    induction i with
    | zero => intro _; simp [butK]
    | succ i ih =>
      intro hi
      rw [butK_succ, ih (by omega)]
      rcases Nat.lt_trichotomy i k with h | h | h
      · rw [if_neg (by omega), if_neg (by omega), if_neg (by omega), take_succ_getD (by omega)]
      · subst h
        rw [if_pos rfl, if_neg (by omega), if_pos (by omega), take_succ_getD (by omega), List.eraseIdx_append_of_length_le (by simp; omega)]
        simp [show min i l.length = i by omega]
      · rw [if_neg (by omega), if_pos h, if_pos (by omega), take_succ_getD (by omega), List.eraseIdx_append_of_lt_length (by simp; omega)]
  have := key l.length (Nat.le_refl _)
  rw [if_pos hk, List.take_length] at this
  exact this
/-- The place of a number. -/
def place (l : List Int) (n : Int) : Int := if n ∈ l then (l.idxOf n : Nat) else -1
theorem place_at {l : List Int} {n : Int} {k : Nat} (h : k < l.length) (h0 : n ∉ l.take k) (e : l.getD k default = n) : place l n = k := by
  have hm : n ∈ l := by rw [← e]; exact getD_mem h
  unfold place
  rw [if_pos hm]
  have h1 : l = l.take k ++ n :: l.drop (k + 1) := by
    conv => lhs; rw [← List.take_append_drop k l]
    congr 1
    rw [List.drop_eq_getElem_cons h]
    congr 1
    rw [← e, List.getD_eq_getElem?_getD, List.getElem?_eq_getElem h]; rfl
  rw [h1, List.idxOf_append, if_neg h0]
  simp; omega
theorem place_spec (l : List Int) (n : Int) (hpre : l.length < 2 ^ 62) : FnD Tryd.prog 31 [.l (l.map (I .i64)), I .i64 n] (I .i64 (place l n)) := by
  refine FnD.go Tryd.func31 rfl rfl Tryd.results31 Tryd.ntmps31 ?_
  simp (implicitDefEqProofs := false) (dsimp := false) only [↓aw_seq, ↓aw_block, ↓aw_loop, ↓aw_reg, ↓Qseq_n, ↓ops_nil, ↓ops_cons, ↓eval_int, ↓put_some, ↓op_assign, List.set_cons_zero, List.set_cons_succ, List.cons_append, List.nil_append, List.map_cons, List.map_nil, List.length_cons, List.length_nil, Nat.reduceAdd, Nat.reduceSub, Nat.reduceMul, Nat.zero_add, List.replicate, evK_go, reduceIte, Nat.reduceEqDiff, Nat.reduceLT, Int.zero_add]
  refine loopW (fun k : Nat => { tm := slots 19 [(0, .d (.l (l.map (I .i64)))), (1, .d (I .i64 n)), (5, .d (I .i64 k))], bx := [], rw := [] })
    (fun k => k ≤ l.length ∧ n ∉ l.take k) (fun k => l.length - k) 0 ⟨by simp, by simp⟩ ?_ ?_
  · refine Wkn.of [] [] ?_
    simp (implicitDefEqProofs := false) (dsimp := false) only [List.set_cons_zero, List.set_cons_succ, Bool.and_self, Nat.reduceAdd, Nat.reduceSub, Nat.reduceMul, List.replicate, evK_go, reduceIte, Nat.reduceEqDiff, Nat.reduceLT, and_self, List.foldl_cons, List.foldl_nil, Int.cast_ofNat_Int, slots, wkL_nil, wkL_cons, wkB_nil, wkR_nil, wkV_j, wkV_d, frz_d, reduceCtorEq]
  · rintro k ⟨h1, h2⟩
    simp (implicitDefEqProofs := false) (dsimp := false) only [slots, ↓aw_cond, ↓aw_seq, ↓aw_reg, ↓Qseq_n, ↓ops_nil, ↓ops_cons, ↓eval_tmp, ↓put_some, ↓bK_b, ↓lenK_l, ↓binE_i, ↓bi_lss, ↓op_move, ↓op_bin, ↓op_len, ↓sl24, List.getD_cons_zero, List.getD_cons_succ, List.set_cons_zero, List.set_cons_succ, List.length_map, Nat.reduceAdd, Nat.reduceSub, Nat.reduceMul, List.replicate, evK_go, reduceIte, Nat.reduceEqDiff, Nat.reduceLT, List.foldl_cons, List.foldl_nil, Int.ofNat_lt]
    refine cdK_dec (fun h => ?_) (fun h => ?_)
    · simp (implicitDefEqProofs := false) (dsimp := false) only [h, ↓atK_H, ↓atH_map, ↓aw_cond, ↓aw_seq, ↓aw_block, ↓aw_skip, ↓aw_reg, ↓Qseq_n, ↓ops_nil, ↓ops_cons, ↓eval_tmp, ↓put_some, ↓bK_b, ↓iK_i, ↓binE_i, ↓bi_eql, ↓ldK_q, ↓iaK_l, ↓op_move, ↓op_load, ↓op_bin, ↓op_ia, ↓cells_c, ↓hd_cons, ↓ty3, ↓sl24, List.getD_cons_zero, List.getD_cons_succ, List.set_cons_zero, List.set_cons_succ, List.length_cons, List.length_nil, Bool.true_and, Nat.reduceAdd, Nat.reduceSub, Nat.reduceMul, Nat.zero_add, Int.toNat_natCast, evK_go, reduceIte, decide_true, Nat.reduceEqDiff, Nat.reduceLT, true_and, Int.zero_add, Int.natCast_nonneg]
      refine cdK_dec (fun hb => ?_) (fun hb => ?_)
      · have := place_at h h2 hb
        simp (implicitDefEqProofs := false) (dsimp := false) only [this, ↓aw_seq, ↓aw_ret, ↓aw_reg, ↓Qseq_n, ↓Qseq_r, ↓Qblk_r, ↓Qret_r, ↓ops_nil, ↓ops_cons, ↓eval_tmp, ↓put_some, ↓op_move, ↓op_assign, ↓td_d, ↓ret_1, List.getD_cons_zero, List.getD_cons_succ, List.set_cons_zero, List.set_cons_succ, Nat.reduceAdd, Nat.reduceSub, Nat.reduceMul, evK_go, reduceIte, Nat.reduceEqDiff, Nat.reduceLT]
      · simp (implicitDefEqProofs := false) (dsimp := false) only [↓aw_skip, ↓aw_reg, ↓Qseq_n, ↓Qblk_n, ↓ops_nil, ↓ops_cons, ↓eval_tmp, ↓eval_int, ↓put_some, ↓binE_i, ↓bi_add, ↓in_i64, ↓op_move, ↓op_assign, ↓op_bin, List.getD_cons_zero, List.getD_cons_succ, List.set_cons_zero, List.set_cons_succ, Nat.reduceAdd, Nat.reduceSub, Nat.reduceMul, evK_go, reduceIte, Nat.reduceEqDiff, Nat.reduceLT]
        refine ⟨by omega, k + 1, ⟨by omega, ?_⟩, by omega, ?_⟩
        · rw [take_succ_getD h, List.mem_append, List.mem_singleton]
          exact fun h' => h'.elim h2 (fun e => hb e.symm)
        · refine Wkn.of [] [] ?_
          simp (implicitDefEqProofs := false) (dsimp := false) only [List.set_cons_zero, List.set_cons_succ, Bool.and_self, Nat.reduceAdd, Nat.reduceSub, Nat.reduceMul, List.replicate, evK_go, reduceIte, Nat.reduceEqDiff, Nat.reduceLT, and_self, List.foldl_cons, List.foldl_nil, Int.cast_ofNat_Int, Int.natCast_add, slots, wkL_nil, wkL_cons, wkB_nil, wkR_nil, wkV_j, wkV_d, frz_d, reduceCtorEq]
    · obtain rfl : k = l.length := by omega
      rw [List.take_length] at h2
      have : place l n = -1 := if_neg h2
      simp (implicitDefEqProofs := false) (dsimp := false) only [this, ↓aw_seq, ↓aw_exit, ↓aw_ret, ↓aw_reg, ↓Qseq_n, ↓Qseq_x, ↓Qblk_x, ↓Qret_r, ↓ops_nil, ↓ops_cons, ↓eval_tmp, ↓eval_int, ↓put_some, ↓op_assign, ↓td_d, ↓ret_1, List.getD_cons_zero, List.getD_cons_succ, List.set_cons_zero, List.set_cons_succ, Nat.reduceAdd, Nat.reduceSub, Nat.reduceMul, evK_go, reduceIte, decide_false, Nat.reduceEqDiff, Nat.reduceLT, Nat.lt_irrefl]
theorem place_call (l : List Int) (n : Int) (pure : Bool) (σ : St) (dst : Option Tmp) (K : St → Prop) : CallH Tryd.prog 31 [.l (l.map (I .i64)), I .i64 n] pure σ dst (.mk : Hid K) = OrH ((l.length < 2 ^ 62) ∧ (pure || D.flat (I .i64 (place l n))) = true ∧ evK (σ.put dst (.d (I .i64 (place l n)))) (.mk : Hid K)) (.mk : Hid (CallH Tryd.prog 31 [.l (l.map (I .i64)), I .i64 n] pure σ dst (.mk : Hid K))) := CallH.eq (place_spec l n) pure σ dst K
theorem place_callQ (l : List Int) (n : Int) (pure : Bool) (C : V → Prop) : CallQ Tryd.prog 31 [.l (l.map (I .i64)), I .i64 n] pure (.mk : Hid C) = OrH ((l.length < 2 ^ 62) ∧ (pure || D.flat (I .i64 (place l n))) = true ∧ evK (V.d (I .i64 (place l n))) (.mk : Hid C)) (.mk : Hid (CallQ Tryd.prog 31 [.l (l.map (I .i64)), I .i64 n] pure (.mk : Hid C))) := CallQ.eq (place_spec l n) pure C
/-- How many are false. -/
def missN (l : List Bool) : Nat := l.countP fun b => !b
theorem miss_succ {l : List Bool} {k : Nat} (h : k < l.length) : missN (l.take (k + 1)) = missN (l.take k) + if l.getD k default then 0 else 1 := by
  rw [take_succ_getD h, missN, List.countP_append]
  cases l.getD k default <;> simp [missN]
theorem miss_le (l : List Bool) : missN l ≤ l.length := List.countP_le_length
theorem lines_spec (n : Int) (l : List (Int × Int)) (hpre : l.length < 2 ^ 62) : FnD Tryd.prog 20 [I .i64 n, .l (l.map lnD)] (I .i64 (chk n l)) := by
  refine FnD.go Tryd.func20 rfl rfl Tryd.results20 Tryd.ntmps20 ?_
  simp (implicitDefEqProofs := false) (dsimp := false) only [↓aw_seq, ↓aw_reg, ↓Qseq_n, ↓ops_nil, ↓ops_cons, ↓eval_tmp, ↓eval_int, ↓eval_func, ↓put_some, ↓op_move, ↓op_assign, ↓op_call, isD_d, ↓fnK_f, ↓call_H, ↓callK_H, ↓allT_nil, ↓allT_cons, ↓td_d, List.getD_cons_zero, List.getD_cons_succ, List.set_cons_zero, List.set_cons_succ, List.cons_append, List.nil_append, List.append_nil, List.map_cons, List.map_nil, List.length_cons, List.length_nil, List.all_cons, List.all_nil, Bool.and_self, Nat.reduceAdd, Nat.reduceSub, Nat.reduceMul, Nat.zero_add, List.replicate, evK_go, reduceIte, Nat.reduceEqDiff, Nat.reduceLT, and_self, Int.zero_add]
  simp (implicitDefEqProofs := false) (dsimp := false) only [in1_call, ↓cdK_not, ↓aw_cond, ↓Qseq_n, ↓ops_nil, ↓ops_cons, ↓eval_tmp, ↓put_some, ↓bK_b, ↓op_not, List.getD_cons_zero, List.getD_cons_succ, List.set_cons_zero, List.set_cons_succ, Bool.true_and, Bool.true_or, Nat.reduceAdd, Nat.reduceSub, Nat.reduceMul, evK_go, reduceIte, Nat.reduceEqDiff, Nat.reduceLT, true_and]
  refine OrH.l (OrH.l (cdK_split (fun hn => ?_) (fun hn => ?_)))
  rotate_left
  · simp (implicitDefEqProofs := false) (dsimp := false) only [chk, hn, ↓aw_seq, ↓aw_ret, ↓aw_reg, ↓Qseq_n, ↓Qseq_r, ↓Qret_r, ↓ops_nil, ↓ops_cons, ↓eval_tmp, ↓eval_int, ↓put_some, ↓op_assign, ↓td_d, ↓ret_1, List.getD_cons_zero, List.getD_cons_succ, List.set_cons_zero, List.set_cons_succ, Nat.reduceAdd, Nat.reduceSub, Nat.reduceMul, evK_go, reduceIte, Bool.not_false, Nat.reduceEqDiff, Nat.reduceLT]
  simp (implicitDefEqProofs := false) (dsimp := false) only [↓aw_cond, ↓aw_seq, ↓aw_skip, ↓aw_reg, ↓Qseq_n, ↓ops_nil, ↓ops_cons, ↓eval_tmp, ↓eval_int, ↓put_some, ↓bK_b, ↓lenK_l, ↓binE_i, ↓bi_gtr, ↓op_move, ↓op_bin, ↓op_len, ↓sl22, List.getD_cons_zero, List.getD_cons_succ, List.set_cons_zero, List.set_cons_succ, List.length_map, Nat.reduceAdd, Nat.reduceSub, Nat.reduceMul, evK_go, reduceIte, Nat.reduceEqDiff, Nat.reduceLT]
  refine cdK_dec (fun h24 => ?_) (fun h24 => ?_)
  · have h24' : 24 < l.length := by omega
    simp (implicitDefEqProofs := false) (dsimp := false) only [chk, hn, h24', Bool.true_eq_false, ↓aw_seq, ↓aw_ret, ↓aw_reg, ↓Qseq_n, ↓Qseq_r, ↓Qret_r, ↓ops_nil, ↓ops_cons, ↓eval_tmp, ↓eval_int, ↓put_some, ↓op_assign, ↓td_d, ↓ret_1, List.getD_cons_zero, List.getD_cons_succ, List.set_cons_zero, List.set_cons_succ, Nat.reduceAdd, Nat.reduceSub, Nat.reduceMul, evK_go, reduceIte, Bool.not_true, Nat.reduceEqDiff, Nat.reduceLT]
  have h24' : ¬ 24 < l.length := by omega
  have hc : chk n l = firstErr (lineErr n) l := by simp [chk, hn, h24']
  rw [hc]
  simp (implicitDefEqProofs := false) (dsimp := false) only [↓aw_seq, ↓aw_block, ↓aw_skip, ↓aw_loop, ↓aw_reg, ↓Qseq_n, ↓ops_nil, ↓ops_cons, ↓eval_int, ↓put_some, ↓op_assign, List.set_cons_zero, List.set_cons_succ, Nat.reduceAdd, Nat.reduceSub, Nat.reduceMul, evK_go, reduceIte, Nat.reduceEqDiff, Nat.reduceLT]
  have hn' : 1 ≤ n ∧ n ≤ 8 := by simpa [inB] using hn
  refine loopW (fun k : Nat => { tm := slots 49 [(0, .d (I .i64 n)), (1, .d (.l (l.map lnD))), (5, .d (I .i64 k))], bx := [], rw := [] })
    (fun k => k ≤ l.length ∧ firstErr (lineErr n) (l.take k) = 0) (fun k => l.length - k) 0 ⟨by simp, by simp [firstErr]⟩ ?_ ?_
  · refine Wkn.of [] [] ?_
    simp (implicitDefEqProofs := false) (dsimp := false) only [List.set_cons_zero, List.set_cons_succ, Bool.and_self, Nat.reduceAdd, Nat.reduceSub, Nat.reduceMul, List.replicate, evK_go, reduceIte, Nat.reduceEqDiff, Nat.reduceLT, and_self, List.foldl_cons, List.foldl_nil, Int.cast_ofNat_Int, slots, wkL_nil, wkL_cons, wkB_nil, wkR_nil, wkV_j, wkV_d, frz_d, reduceCtorEq]
  · rintro k ⟨h1, h2⟩
    simp (implicitDefEqProofs := false) (dsimp := false) only [slots, ↓aw_cond, ↓aw_seq, ↓aw_reg, ↓Qseq_n, ↓ops_nil, ↓ops_cons, ↓eval_tmp, ↓put_some, ↓bK_b, ↓lenK_l, ↓binE_i, ↓bi_lss, ↓op_move, ↓op_bin, ↓op_len, ↓sl22, List.getD_cons_zero, List.getD_cons_succ, List.set_cons_zero, List.set_cons_succ, List.length_map, Nat.reduceAdd, Nat.reduceSub, Nat.reduceMul, List.replicate, evK_go, reduceIte, Nat.reduceEqDiff, Nat.reduceLT, List.foldl_cons, List.foldl_nil, Int.ofNat_lt]
    refine cdK_dec (fun h => ?_) (fun h => ?_)
    · obtain ⟨g1, g2⟩ := firstErr_take h h2
      simp (implicitDefEqProofs := false) (dsimp := false) only [h, lnD, in1_call, ↓cdK_not, ↓gdK_f, ↓gval_mk, ↓gvL_zero, ↓gvL_succ, ↓atK_H, ↓atH_map, ↓aw_seq, ↓aw_block, ↓aw_skip, ↓aw_reg, ↓Qseq_n, ↓ops_cons, ↓ops_guard, ↓eval_tmp, ↓eval_int, ↓eval_func, ↓put_some, ↓bK_b, ↓iK_i, ↓binE_i, ↓bi_sub, ↓in_i64, ↓ldK_q, ↓faK_q, ↓iaK_l, ↓op_move, ↓op_load, ↓op_bin, ↓op_not, ↓op_fa, ↓op_ia, ↓op_call, isD_d, ↓fnK_f, ↓call_H, ↓callK_H, ↓allT_nil, ↓allT_cons, ↓td_d, ↓st_tm, ↓cells_s, ↓hd_cons, ↓ty3, ↓sl22, ↓ty41, ↓fd41_0, List.getD_cons_zero, List.getD_cons_succ, List.set_cons_zero, List.set_cons_succ, List.append_nil, List.length_cons, List.length_nil, List.all_cons, List.all_nil, Bool.true_and, Bool.and_self, Bool.true_or, Nat.reduceAdd, Nat.reduceSub, Nat.reduceMul, Nat.zero_add, Int.toNat_natCast, evK_go, reduceIte, decide_true, Nat.reduceEqDiff, Nat.reduceLT, and_self, true_and, Int.zero_add, List.drop_zero, Int.natCast_nonneg]
      refine ⟨by omega, OrH.l (OrH.l (cdK_split (fun ha => ?_) (fun ha => ?_)))⟩
      rotate_left
      · have e : lineErr n (l.getD k default) = 1 := by simp (implicitDefEqProofs := false) (dsimp := false) only [lineErr, ha, Bool.false_and, reduceIte]
        rw [g2 (by rw [e]; decide), e]
        simp (implicitDefEqProofs := false) (dsimp := false) only [ha, ↓cdK_true, ↓gdK_f, ↓gval_mk, ↓gvL_zero, ↓gvL_succ, ↓aw_cond, ↓aw_seq, ↓aw_ret, ↓aw_reg, ↓Qseq_n, ↓Qseq_r, ↓Qblk_r, ↓Qret_r, ↓ops_nil, ↓ops_cons, ↓ops_guard, ↓eval_tmp, ↓eval_int, ↓eval_bool, ↓put_some, ↓bK_b, ↓op_assign, ↓op_pick, ↓td_d, ↓ret_1, ↓st_tm, List.getD_cons_zero, List.getD_cons_succ, List.set_cons_zero, List.set_cons_succ, Nat.reduceAdd, Nat.reduceSub, Nat.reduceMul, evK_go, reduceIte, Bool.not_false, Nat.reduceEqDiff, Nat.reduceLT]
      simp (implicitDefEqProofs := false) (dsimp := false) only [ha, h, lnD, in1_call, ↓cdK_false, ↓cdK_not, ↓gdK_f, ↓gval_mk, ↓gvL_zero, ↓gvL_succ, ↓atK_H, ↓atH_map, ↓aw_cond, ↓Qseq_n, ↓ops_nil, ↓ops_cons, ↓ops_guard, ↓eval_tmp, ↓eval_int, ↓eval_func, ↓put_some, ↓bK_b, ↓iK_i, ↓binE_i, ↓bi_sub, ↓in_i64, ↓ldK_q, ↓faK_q, ↓iaK_l, ↓op_move, ↓op_pick, ↓op_load, ↓op_bin, ↓op_not, ↓op_fa, ↓op_ia, ↓op_call, isD_d, ↓fnK_f, ↓call_H, ↓callK_H, ↓allT_nil, ↓allT_cons, ↓td_d, ↓st_tm, ↓cells_s, ↓hd_cons, ↓ty3, ↓sl22, ↓ty41, ↓fd41_1, List.getD_cons_zero, List.getD_cons_succ, List.set_cons_zero, List.set_cons_succ, List.append_nil, List.length_cons, List.length_nil, List.all_cons, List.all_nil, Bool.true_and, Bool.and_self, Bool.true_or, Nat.reduceAdd, Nat.reduceSub, Nat.reduceMul, Nat.zero_add, Int.toNat_natCast, evK_go, reduceIte, Bool.not_true, Nat.reduceEqDiff, Nat.reduceLT, and_self, true_and, Int.zero_add, List.drop_zero, List.drop_succ_cons, Int.natCast_nonneg]
      refine ⟨by omega, OrH.l (OrH.l (cdK_split (fun hb => ?_) (fun hb => ?_)))⟩
      · simp (implicitDefEqProofs := false) (dsimp := false) only [hb, h, lnD, ↓atK_H, ↓atH_map, ↓aw_cond, ↓aw_seq, ↓aw_skip, ↓aw_draw, ↓Qseq_n, ↓eval_tmp, ↓put_some, ↓bK_b, ↓iK_i, ↓ev_move, ↓ev_load, ↓ev_bin, ↓ev_fa, ↓ev_ia, ↓binE_i, ↓bi_eql, ↓ldK_q, ↓faK_q, ↓iaK_l, ↓draw_H, ↓h_nil, ↓h_cons, ↓ldH_n, ↓q_move, ↓q_load, ↓q_bin, ↓q_fa, ↓q_ia, ↓il_move, ↓il_load, ↓il_bin, ↓il_fa, ↓il_ia, ↓cells_s, ↓hd_cons, ↓ty3, ↓sl22, ↓ty41, ↓fd41_0, ↓fd41_1, List.getD_cons_zero, List.getD_cons_succ, List.set_cons_zero, List.set_cons_succ, List.length_cons, List.length_nil, Bool.true_and, Nat.reduceAdd, Nat.reduceSub, Nat.reduceMul, Nat.zero_add, Int.toNat_natCast, evK_go, reduceIte, Bool.not_true, Nat.reduceEqDiff, Nat.reduceLT, true_and, Int.zero_add, List.drop_zero, List.drop_succ_cons, Int.natCast_nonneg]
        refine OrH.l ⟨DrawH.of follows_mixed (by kernel_rfl), cdK_dec (fun he => ?_) (fun he => ?_)⟩
        · have e : lineErr n (l.getD k default) = 3 := by unfold lineErr; rw [ha, hb, if_neg (by decide), if_pos he]
          rw [g2 (by rw [e]; decide), e]
          simp (implicitDefEqProofs := false) (dsimp := false) only [↓aw_seq, ↓aw_ret, ↓aw_reg, ↓Qseq_n, ↓Qseq_r, ↓Qblk_r, ↓Qret_r, ↓ops_nil, ↓ops_cons, ↓eval_tmp, ↓eval_int, ↓put_some, ↓op_assign, ↓td_d, ↓ret_1, List.getD_cons_zero, List.getD_cons_succ, List.set_cons_zero, List.set_cons_succ, Nat.reduceAdd, Nat.reduceSub, Nat.reduceMul, evK_go, reduceIte, Nat.reduceEqDiff, Nat.reduceLT]
        · have e : lineErr n (l.getD k default) = 0 := by simp (implicitDefEqProofs := false) (dsimp := false) only [lineErr, ha, hb, he, Bool.and_self, reduceIte, Bool.true_eq_false]
          simp (implicitDefEqProofs := false) (dsimp := false) only [↓aw_skip, ↓aw_reg, ↓Qseq_n, ↓Qblk_n, ↓ops_nil, ↓ops_cons, ↓eval_tmp, ↓eval_int, ↓put_some, ↓binE_i, ↓bi_add, ↓in_i64, ↓op_move, ↓op_assign, ↓op_bin, List.getD_cons_zero, List.getD_cons_succ, List.set_cons_zero, List.set_cons_succ, Nat.reduceAdd, Nat.reduceSub, Nat.reduceMul, evK_go, reduceIte, Nat.reduceEqDiff, Nat.reduceLT]
          refine ⟨by omega, k + 1, ⟨by omega, g1 e⟩, by omega, ?_⟩
          refine Wkn.of [] [] ?_
          simp (implicitDefEqProofs := false) (dsimp := false) only [List.set_cons_zero, List.set_cons_succ, Bool.and_self, Nat.reduceAdd, Nat.reduceSub, Nat.reduceMul, List.replicate, evK_go, reduceIte, Nat.reduceEqDiff, Nat.reduceLT, and_self, List.foldl_cons, List.foldl_nil, Int.cast_ofNat_Int, Int.natCast_add, slots, wkL_nil, wkL_cons, wkB_nil, wkR_nil, wkV_j, wkV_d, frz_d, reduceCtorEq]
      · have e : lineErr n (l.getD k default) = 1 := by simp (implicitDefEqProofs := false) (dsimp := false) only [lineErr, hb, Bool.and_false, reduceIte]
        rw [g2 (by rw [e]; decide), e]
        simp (implicitDefEqProofs := false) (dsimp := false) only [hb, ↓aw_seq, ↓aw_ret, ↓aw_reg, ↓Qseq_n, ↓Qseq_r, ↓Qblk_r, ↓Qret_r, ↓ops_nil, ↓ops_cons, ↓eval_tmp, ↓eval_int, ↓put_some, ↓op_assign, ↓td_d, ↓ret_1, List.getD_cons_zero, List.getD_cons_succ, List.set_cons_zero, List.set_cons_succ, Nat.reduceAdd, Nat.reduceSub, Nat.reduceMul, evK_go, reduceIte, Bool.not_false, Nat.reduceEqDiff, Nat.reduceLT]
    · obtain rfl : k = l.length := by omega
      rw [List.take_length] at h2
      simp (implicitDefEqProofs := false) (dsimp := false) only [h2, ↓aw_seq, ↓aw_exit, ↓aw_ret, ↓aw_reg, ↓Qseq_n, ↓Qseq_x, ↓Qblk_x, ↓Qret_r, ↓ops_nil, ↓ops_cons, ↓eval_tmp, ↓eval_int, ↓put_some, ↓op_assign, ↓td_d, ↓ret_1, List.getD_cons_zero, List.getD_cons_succ, List.set_cons_zero, List.set_cons_succ, Nat.reduceAdd, Nat.reduceSub, Nat.reduceMul, evK_go, reduceIte, decide_false, Nat.reduceEqDiff, Nat.reduceLT, Nat.lt_irrefl]
theorem lines_call (n : Int) (l : List (Int × Int)) (pure : Bool) (σ : St) (dst : Option Tmp) (K : St → Prop) : CallH Tryd.prog 20 [I .i64 n, .l (l.map lnD)] pure σ dst (.mk : Hid K) = OrH ((l.length < 2 ^ 62) ∧ (pure || D.flat (I .i64 (chk n l))) = true ∧ evK (σ.put dst (.d (I .i64 (chk n l)))) (.mk : Hid K)) (.mk : Hid (CallH Tryd.prog 20 [I .i64 n, .l (l.map lnD)] pure σ dst (.mk : Hid K))) := CallH.eq (lines_spec n l) pure σ dst K
theorem lines_callQ (n : Int) (l : List (Int × Int)) (pure : Bool) (C : V → Prop) : CallQ Tryd.prog 20 [I .i64 n, .l (l.map lnD)] pure (.mk : Hid C) = OrH ((l.length < 2 ^ 62) ∧ (pure || D.flat (I .i64 (chk n l))) = true ∧ evK (V.d (I .i64 (chk n l))) (.mk : Hid C)) (.mk : Hid (CallQ Tryd.prog 20 [I .i64 n, .l (l.map lnD)] pure (.mk : Hid C))) := CallQ.eq (lines_spec n l) pure C
end Go.Proofs

namespace Go.Proofs
open Go.Aw
set_option linter.unusedSimpArgs false
set_option maxRecDepth 10000
def litN (q : Int × Bool) (t : Bool) : Int := if q.2 != t then 2 * q.1 + 1 else 2 * q.1
theorem point_spec (q : Int × Bool) (t : Bool) (hpre : 0 ≤ q.1 ∧ q.1 ≤ 8) : FnD Tryd.prog 114 [.s [I .i64 q.1, Bo q.2], Bo t] (I .i64 (litN q t)) := by
  obtain ⟨x, b⟩ := q
  simp only at hpre
  refine FnD.go Tryd.func114 rfl rfl Tryd.results114 Tryd.ntmps114 ?_
  simp (implicitDefEqProofs := false) (dsimp := false) only [↓nthK_H, ↓nthH_zero, ↓nthH_succ, ↓aw_cond, ↓aw_seq, ↓aw_reg, ↓Qseq_n, ↓ops_nil, ↓ops_cons, ↓eval_tmp, ↓eval_int, ↓put_some, ↓ldK_p, ↓faK_p, ↓op_move, ↓op_assign, ↓op_load, ↓op_bin, ↓op_fa, ↓op_box, ↓addBox_mk, ↓st_bx, ↓vcells_s, ↓one_i, ↓one_b, ↓vone_d, ↓ty4, ↓fd91_1, List.getD_cons_zero, List.getD_cons_succ, List.set_cons_zero, List.set_cons_succ, List.cons_append, List.nil_append, List.map_cons, List.map_nil, List.length_cons, List.length_nil, List.all_cons, List.all_nil, Bool.true_and, Bool.and_self, Nat.reduceAdd, Nat.reduceSub, Nat.reduceMul, Nat.zero_add, List.replicate, evK_go, reduceIte, Nat.reduceEqDiff, Nat.reduceLT, and_self, true_and, Int.zero_add]
  simp (implicitDefEqProofs := false) (dsimp := false) only [↓bo_neq, ↓cdK_not, ↓bK_b, Nat.reduceAdd, Nat.reduceSub, Nat.reduceMul, evK_go, reduceIte, Nat.reduceEqDiff, Nat.reduceLT]
  refine cdK_split (fun hb => ?_) (fun hb => ?_)
  · have e : litN (x, b) t = 2 * x := if_neg (by simpa [bne] using hb)
    simp (implicitDefEqProofs := false) (dsimp := false) only [e, ↓nthK_H, ↓nthH_zero, ↓aw_seq, ↓aw_ret, ↓aw_skip, ↓aw_reg, ↓Qseq_n, ↓Qret_r, ↓ops_nil, ↓ops_cons, ↓eval_tmp, ↓eval_int, ↓put_some, ↓binE_i, ↓bi_mul, ↓in_i64, ↓ldK_p, ↓faK_p, ↓op_assign, ↓op_load, ↓op_bin, ↓op_fa, ↓td_d, ↓ret_1, ↓vcells_s, ↓ty3, ↓fd91_0, List.getD_cons_zero, List.getD_cons_succ, List.set_cons_zero, List.set_cons_succ, List.map_cons, List.map_nil, Bool.and_true, Bool.true_and, Nat.reduceAdd, Nat.reduceSub, Nat.reduceMul, Nat.add_zero, evK_go, reduceIte, Nat.reduceEqDiff, Nat.reduceLT, true_and, and_true]
    omega
  · have e : litN (x, b) t = 2 * x + 1 := if_pos (by simpa [bne] using hb)
    simp (implicitDefEqProofs := false) (dsimp := false) only [e, ↓nthK_H, ↓nthH_zero, ↓aw_seq, ↓aw_ret, ↓aw_reg, ↓Qseq_n, ↓Qseq_r, ↓Qret_r, ↓ops_nil, ↓ops_cons, ↓eval_tmp, ↓eval_int, ↓put_some, ↓binE_i, ↓bi_add, ↓bi_mul, ↓in_i64, ↓ldK_p, ↓faK_p, ↓op_assign, ↓op_load, ↓op_bin, ↓op_fa, ↓td_d, ↓ret_1, ↓vcells_s, ↓ty3, ↓fd91_0, List.getD_cons_zero, List.getD_cons_succ, List.set_cons_zero, List.set_cons_succ, List.map_cons, List.map_nil, Bool.and_true, Bool.true_and, Nat.reduceAdd, Nat.reduceSub, Nat.reduceMul, Nat.add_zero, evK_go, reduceIte, Nat.reduceEqDiff, Nat.reduceLT, true_and, and_true]
    omega
theorem point_call (q : Int × Bool) (t : Bool) (pure : Bool) (σ : St) (dst : Option Tmp) (K : St → Prop) : CallH Tryd.prog 114 [.s [I .i64 q.1, Bo q.2], Bo t] pure σ dst (.mk : Hid K) = OrH ((0 ≤ q.1 ∧ q.1 ≤ 8) ∧ (pure || D.flat (I .i64 (litN q t))) = true ∧ evK (σ.put dst (.d (I .i64 (litN q t)))) (.mk : Hid K)) (.mk : Hid (CallH Tryd.prog 114 [.s [I .i64 q.1, Bo q.2], Bo t] pure σ dst (.mk : Hid K))) := CallH.eq (point_spec q t) pure σ dst K
theorem point_callQ (q : Int × Bool) (t : Bool) (pure : Bool) (C : V → Prop) : CallQ Tryd.prog 114 [.s [I .i64 q.1, Bo q.2], Bo t] pure (.mk : Hid C) = OrH ((0 ≤ q.1 ∧ q.1 ≤ 8) ∧ (pure || D.flat (I .i64 (litN q t))) = true ∧ evK (V.d (I .i64 (litN q t))) (.mk : Hid C)) (.mk : Hid (CallQ Tryd.prog 114 [.s [I .i64 q.1, Bo q.2], Bo t] pure (.mk : Hid C))) := CallQ.eq (point_spec q t) pure C
theorem fits_spec (s n : Nat) (hpre : n ≤ 8 ∧ s < 2 ^ 64) : FnD Tryd.prog 89 [U s, .q [I .i64 (n : Int)]] (Bo (fitsB n s)) := by
  obtain ⟨hn, hs⟩ := hpre
  refine FnD.go Tryd.func89 rfl rfl Tryd.results89 Tryd.ntmps89 ?_
  simp (implicitDefEqProofs := false) (dsimp := false) only [↓aw_seq, ↓aw_block, ↓aw_loop, ↓aw_reg, ↓Qseq_n, ↓ops_nil, ↓ops_cons, ↓eval_tmp, ↓eval_int, ↓eval_bool, ↓put_some, ↓ldK_q, ↓op_move, ↓op_assign, ↓op_load, ↓hd_cons, ↓ty3, List.getD_cons_zero, List.getD_cons_succ, List.set_cons_zero, List.set_cons_succ, List.cons_append, List.nil_append, List.map_cons, List.map_nil, List.length_cons, List.length_nil, Nat.reduceAdd, Nat.reduceSub, Nat.reduceMul, Nat.zero_add, List.replicate, evK_go, reduceIte, Nat.reduceEqDiff, Nat.reduceLT, Int.zero_add]
  refine loopW (fun i : Nat => { tm := slots 21 [(0, .d (U s)), (5, .d (I .i64 (n : Int))), (6, .d (I .i64 i))], bx := [], rw := [] })
    (fun i => i ≤ n ∧ fitsB i s = true) (fun i => n - i) 0 ⟨by simp, by simp [fitsB]⟩ ?_ ?_
  · refine Wkn.of [] [] ?_; simp (implicitDefEqProofs := false) (dsimp := false) only [List.set_cons_zero, List.set_cons_succ, Bool.and_self, Nat.reduceAdd, Nat.reduceSub, Nat.reduceMul, List.replicate, evK_go, reduceIte, Nat.reduceEqDiff, Nat.reduceLT, and_self, List.foldl_cons, List.foldl_nil, Int.cast_ofNat_Int, slots, wkL_nil, wkL_cons, wkB_nil, wkR_nil, wkV_j, wkV_d, frz_d, reduceCtorEq]
  · rintro i ⟨hi, hf⟩
    simp (implicitDefEqProofs := false) (dsimp := false) only [slots, ↓aw_cond, ↓aw_seq, ↓aw_reg, ↓Qseq_n, ↓ops_nil, ↓ops_cons, ↓eval_tmp, ↓put_some, ↓bK_b, ↓binE_i, ↓bi_lss, ↓op_bin, List.getD_cons_zero, List.getD_cons_succ, List.set_cons_zero, List.set_cons_succ, Nat.reduceAdd, Nat.reduceSub, Nat.reduceMul, List.replicate, evK_go, reduceIte, Nat.reduceEqDiff, Nat.reduceLT, List.foldl_cons, List.foldl_nil, Int.ofNat_lt]
    refine cdK_dec (fun h => ?_) (fun h => ?_)
    · have hf1 : fitsB (i + 1) s = (fitsB i s && !(s.testBit (2 * i) && s.testBit (2 * i + 1))) := by simp [fitsB, List.range_succ]
      have hfn : s.testBit (2 * i) = true → s.testBit (2 * i + 1) = true → fitsB n s = false := fun h1 h2 => by
        rw [← Bool.not_eq_true]
        intro hq
        have := List.all_eq_true.1 hq i (by simp; omega)
        rw [h1, h2] at this
        cases this
      obtain ⟨p2, hp2⟩ : ∃ p2, p2 = 2 * i + 1 := ⟨_, rfl⟩
      obtain ⟨p1, hp1⟩ : ∃ p1, p1 = 2 * i := ⟨_, rfl⟩
      rw [← hp2, ← hp1] at hf1 hfn
      have c1 : (2 : Int) * (i : Int) = (p1 : Int) := by omega
      have c2 : (p1 : Int) + 1 = (p2 : Int) := by omega
      have b1 : p1 ≤ 64 := by omega
      have b2 : p2 ≤ 64 := by omega
      cases ha : s.testBit p1 with
      | false =>
        rw [ha, hf] at hf1
        simp (implicitDefEqProofs := false) (dsimp := false) only [c1, hasS_call, hs, b1, ha, ↓cdK_false, ↓gdK_t, ↓gval_mk, ↓gvL_zero, ↓gvL_succ, ↓aw_cond, ↓aw_seq, ↓aw_block, ↓aw_skip, ↓aw_reg, ↓Qseq_n, ↓Qblk_n, ↓ops_nil, ↓ops_cons, ↓ops_guard, ↓eval_tmp, ↓eval_int, ↓eval_bool, ↓eval_func, ↓put_some, ↓bK_b, ↓binE_i, ↓bi_add, ↓bi_mul, ↓in_i64, ↓op_move, ↓op_assign, ↓op_pick, ↓op_bin, ↓op_call, isD_d, ↓fnK_f, ↓call_H, ↓callK_H, ↓allT_nil, ↓allT_cons, ↓td_d, ↓st_tm, List.getD_cons_zero, List.getD_cons_succ, List.set_cons_zero, List.set_cons_succ, List.append_nil, List.all_cons, List.all_nil, Bool.true_and, Bool.and_self, Bool.true_or, Nat.reduceAdd, Nat.reduceSub, Nat.reduceMul, evK_go, reduceIte, Nat.reduceEqDiff, Nat.reduceLT, and_self, true_and]
        refine ⟨by omega, ?_⟩
        (repeat refine OrH.l ?_)
        refine ⟨by omega, i + 1, ⟨by omega, hf1⟩, by omega, ?_⟩
        refine Wkn.of [] [] ?_; simp (implicitDefEqProofs := false) (dsimp := false) only [List.set_cons_zero, List.set_cons_succ, Bool.and_self, Nat.reduceAdd, Nat.reduceSub, Nat.reduceMul, List.replicate, evK_go, reduceIte, Nat.reduceEqDiff, Nat.reduceLT, and_self, List.foldl_cons, List.foldl_nil, Int.cast_ofNat_Int, Int.natCast_add, slots, wkL_nil, wkL_cons, wkB_nil, wkR_nil, wkV_j, wkV_d, frz_d, reduceCtorEq]
      | true =>
        cases hb : s.testBit p2 with
        | false =>
          rw [ha, hb, hf] at hf1
          simp (implicitDefEqProofs := false) (dsimp := false) only [c1, c2, hasS_call, hs, b1, b2, ha, hb, ↓cdK_true, ↓cdK_false, ↓gdK_t, ↓gval_mk, ↓gvL_zero, ↓gvL_succ, ↓aw_cond, ↓aw_seq, ↓aw_block, ↓aw_skip, ↓aw_reg, ↓Qseq_n, ↓Qblk_n, ↓ops_nil, ↓ops_cons, ↓ops_guard, ↓eval_tmp, ↓eval_int, ↓eval_func, ↓put_some, ↓bK_b, ↓binE_i, ↓bi_add, ↓bi_mul, ↓in_i64, ↓op_move, ↓op_assign, ↓op_pick, ↓op_bin, ↓op_call, isD_d, ↓fnK_f, ↓call_H, ↓callK_H, ↓allT_nil, ↓allT_cons, ↓td_d, ↓st_tm, List.getD_cons_zero, List.getD_cons_succ, List.set_cons_zero, List.set_cons_succ, List.append_nil, List.all_cons, List.all_nil, Bool.true_and, Bool.and_self, Bool.true_or, Nat.reduceAdd, Nat.reduceSub, Nat.reduceMul, evK_go, reduceIte, Nat.reduceEqDiff, Nat.reduceLT, and_self, true_and]
          refine ⟨by omega, ?_⟩
          (repeat refine OrH.l ?_)
          refine ⟨by omega, by omega, ?_⟩
          (repeat refine OrH.l ?_)
          refine ⟨by omega, i + 1, ⟨by omega, hf1⟩, by omega, ?_⟩
          refine Wkn.of [] [] ?_; simp (implicitDefEqProofs := false) (dsimp := false) only [List.set_cons_zero, List.set_cons_succ, Bool.and_self, Nat.reduceAdd, Nat.reduceSub, Nat.reduceMul, List.replicate, evK_go, reduceIte, Nat.reduceEqDiff, Nat.reduceLT, and_self, List.foldl_cons, List.foldl_nil, Int.cast_ofNat_Int, Int.natCast_add, slots, wkL_nil, wkL_cons, wkB_nil, wkR_nil, wkV_j, wkV_d, frz_d, reduceCtorEq]
        | true =>
          have hfn := hfn ha hb
          simp (implicitDefEqProofs := false) (dsimp := false) only [c1, c2, hasS_call, hs, b1, b2, ha, hb, hfn, ↓cdK_true, ↓gdK_t, ↓gval_mk, ↓gvL_zero, ↓gvL_succ, ↓aw_cond, ↓aw_seq, ↓aw_block, ↓aw_ret, ↓aw_skip, ↓aw_reg, ↓Qseq_n, ↓Qseq_r, ↓Qblk_r, ↓Qret_r, ↓ops_nil, ↓ops_cons, ↓ops_guard, ↓eval_tmp, ↓eval_int, ↓eval_bool, ↓eval_func, ↓put_some, ↓bK_b, ↓binE_i, ↓bi_add, ↓bi_mul, ↓in_i64, ↓op_move, ↓op_assign, ↓op_pick, ↓op_bin, ↓op_call, ↓orH_T, isD_d, ↓fnK_f, ↓call_H, ↓callK_H, ↓allT_nil, ↓allT_cons, ↓td_d, ↓ret_1, ↓st_tm, List.getD_cons_zero, List.getD_cons_succ, List.set_cons_zero, List.set_cons_succ, List.append_nil, List.all_cons, List.all_nil, Bool.and_true, Bool.true_and, Bool.and_self, Bool.true_or, Nat.reduceAdd, Nat.reduceSub, Nat.reduceMul, evK_go, reduceIte, Nat.reduceEqDiff, Nat.reduceLT, and_self, true_and, and_true]
          refine ⟨by omega, ?_⟩
          (repeat refine OrH.l ?_)
          omega
    · obtain rfl : i = n := by omega
      simp (implicitDefEqProofs := false) (dsimp := false) only [hf, ↓aw_seq, ↓aw_exit, ↓aw_ret, ↓aw_reg, ↓Qseq_n, ↓Qseq_x, ↓Qblk_x, ↓Qret_r, ↓ops_nil, ↓ops_cons, ↓eval_tmp, ↓eval_bool, ↓put_some, ↓op_assign, ↓td_d, ↓ret_1, List.getD_cons_zero, List.getD_cons_succ, List.set_cons_zero, List.set_cons_succ, Nat.reduceAdd, Nat.reduceSub, Nat.reduceMul, evK_go, reduceIte, decide_false, Nat.reduceEqDiff, Nat.reduceLT, Nat.lt_irrefl]
theorem fits_call (s n : Nat) (pure : Bool) (σ : St) (dst : Option Tmp) (K : St → Prop) : CallH Tryd.prog 89 [U s, .q [I .i64 (n : Int)]] pure σ dst (.mk : Hid K) = OrH ((n ≤ 8 ∧ s < 2 ^ 64) ∧ (pure || D.flat (Bo (fitsB n s))) = true ∧ evK (σ.put dst (.d (Bo (fitsB n s)))) (.mk : Hid K)) (.mk : Hid (CallH Tryd.prog 89 [U s, .q [I .i64 (n : Int)]] pure σ dst (.mk : Hid K))) := CallH.eq (fits_spec s n) pure σ dst K
theorem fits_callQ (s n : Nat) (pure : Bool) (C : V → Prop) : CallQ Tryd.prog 89 [U s, .q [I .i64 (n : Int)]] pure (.mk : Hid C) = OrH ((n ≤ 8 ∧ s < 2 ^ 64) ∧ (pure || D.flat (Bo (fitsB n s))) = true ∧ evK (V.d (Bo (fitsB n s))) (.mk : Hid C)) (.mk : Hid (CallQ Tryd.prog 89 [U s, .q [I .i64 (n : Int)]] pure (.mk : Hid C))) := CallQ.eq (fits_spec s n) pure C
end Go.Proofs

namespace Go.Proofs
open Go.Aw
set_option linter.unusedSimpArgs false
set_option maxRecDepth 10000
theorem index_spec (l : List Int) (n : Int) (hpre : l.length < 2 ^ 62) : FnD Tryd.prog 101 [.l (l.map (I .i64)), I .i64 n] (I .i64 (place l n)) := by
  refine FnD.go Tryd.func101 rfl rfl Tryd.results101 Tryd.ntmps101 ?_
  simp (implicitDefEqProofs := false) (dsimp := false) only [↓aw_seq, ↓aw_block, ↓aw_loop, ↓aw_reg, ↓Qseq_n, ↓ops_nil, ↓ops_cons, ↓eval_tmp, ↓eval_int, ↓put_some, ↓lenK_l, ↓op_move, ↓op_assign, ↓op_len, ↓sl24, List.getD_cons_zero, List.getD_cons_succ, List.set_cons_zero, List.set_cons_succ, List.cons_append, List.nil_append, List.map_cons, List.map_nil, List.length_cons, List.length_nil, List.length_map, Nat.reduceAdd, Nat.reduceSub, Nat.reduceMul, Nat.zero_add, List.replicate, evK_go, reduceIte, Nat.reduceEqDiff, Nat.reduceLT, Int.zero_add]
  refine loopW (fun k : Nat => { tm := slots 19 [(0, .d (.l (l.map (I .i64)))), (1, .d (I .i64 n)), (7, .d (I .i64 (l.length : Int))), (8, .d (I .i64 k))], bx := [], rw := [] })
    (fun k => k ≤ l.length ∧ n ∉ l.take k) (fun k => l.length - k) 0 ⟨by simp, by simp⟩ ?_ ?_
  · refine Wkn.of [] [] ?_
    simp (implicitDefEqProofs := false) (dsimp := false) only [List.set_cons_zero, List.set_cons_succ, Bool.and_self, Nat.reduceAdd, Nat.reduceSub, Nat.reduceMul, List.replicate, evK_go, reduceIte, Nat.reduceEqDiff, Nat.reduceLT, and_self, List.foldl_cons, List.foldl_nil, Int.cast_ofNat_Int, slots, wkL_nil, wkL_cons, wkB_nil, wkR_nil, wkV_j, wkV_d, frz_d, reduceCtorEq]
  · rintro k ⟨h1, h2⟩
    simp (implicitDefEqProofs := false) (dsimp := false) only [slots, ↓aw_cond, ↓aw_seq, ↓aw_reg, ↓Qseq_n, ↓ops_nil, ↓ops_cons, ↓eval_tmp, ↓put_some, ↓bK_b, ↓binE_i, ↓bi_lss, ↓op_bin, List.getD_cons_zero, List.getD_cons_succ, List.set_cons_zero, List.set_cons_succ, Nat.reduceAdd, Nat.reduceSub, Nat.reduceMul, List.replicate, evK_go, reduceIte, Nat.reduceEqDiff, Nat.reduceLT, List.foldl_cons, List.foldl_nil, Int.ofNat_lt]
    refine cdK_dec (fun h => ?_) (fun h => ?_)
    · simp (implicitDefEqProofs := false) (dsimp := false) only [h, ↓atK_H, ↓atH_map, ↓aw_cond, ↓aw_seq, ↓aw_block, ↓aw_skip, ↓aw_reg, ↓Qseq_n, ↓ops_nil, ↓ops_cons, ↓eval_tmp, ↓put_some, ↓bK_b, ↓iK_i, ↓binE_i, ↓bi_eql, ↓ldK_q, ↓iaK_l, ↓op_move, ↓op_assign, ↓op_load, ↓op_bin, ↓op_ia, ↓cells_c, ↓hd_cons, ↓ty3, ↓sl24, List.getD_cons_zero, List.getD_cons_succ, List.set_cons_zero, List.set_cons_succ, List.length_cons, List.length_nil, Bool.true_and, Nat.reduceAdd, Nat.reduceSub, Nat.reduceMul, Nat.zero_add, Int.toNat_natCast, evK_go, reduceIte, decide_true, Nat.reduceEqDiff, Nat.reduceLT, true_and, Int.zero_add, Int.natCast_nonneg]
      refine cdK_dec (fun hb => ?_) (fun hb => ?_)
      · have := place_at h h2 hb.symm
        simp (implicitDefEqProofs := false) (dsimp := false) only [this, ↓aw_seq, ↓aw_ret, ↓aw_reg, ↓Qseq_n, ↓Qseq_r, ↓Qblk_r, ↓Qret_r, ↓ops_nil, ↓ops_cons, ↓eval_tmp, ↓put_some, ↓op_move, ↓op_assign, ↓td_d, ↓ret_1, List.getD_cons_zero, List.getD_cons_succ, List.set_cons_zero, List.set_cons_succ, Nat.reduceAdd, Nat.reduceSub, Nat.reduceMul, evK_go, reduceIte, Nat.reduceEqDiff, Nat.reduceLT]
      · simp (implicitDefEqProofs := false) (dsimp := false) only [↓aw_skip, ↓aw_reg, ↓Qseq_n, ↓Qblk_n, ↓ops_nil, ↓ops_cons, ↓eval_tmp, ↓eval_int, ↓put_some, ↓binE_i, ↓bi_add, ↓in_i64, ↓op_move, ↓op_bin, List.getD_cons_zero, List.getD_cons_succ, List.set_cons_zero, List.set_cons_succ, Nat.reduceAdd, Nat.reduceSub, Nat.reduceMul, evK_go, reduceIte, Nat.reduceEqDiff, Nat.reduceLT]
        refine ⟨by omega, k + 1, ⟨by omega, ?_⟩, by omega, ?_⟩
        · rw [take_succ_getD h, List.mem_append, List.mem_singleton]
          exact fun h' => h'.elim h2 (fun e => hb e)
        · refine Wkn.of [] [] ?_
          simp (implicitDefEqProofs := false) (dsimp := false) only [List.set_cons_zero, List.set_cons_succ, Bool.and_self, Nat.reduceAdd, Nat.reduceSub, Nat.reduceMul, List.replicate, evK_go, reduceIte, Nat.reduceEqDiff, Nat.reduceLT, and_self, List.foldl_cons, List.foldl_nil, Int.cast_ofNat_Int, Int.natCast_add, slots, wkL_nil, wkL_cons, wkB_nil, wkR_nil, wkV_j, wkV_d, frz_d, reduceCtorEq]
    · obtain rfl : k = l.length := by omega
      rw [List.take_length] at h2
      have : place l n = -1 := if_neg h2
      simp (implicitDefEqProofs := false) (dsimp := false) only [this, ↓aw_seq, ↓aw_exit, ↓aw_ret, ↓aw_reg, ↓Qseq_n, ↓Qseq_x, ↓Qblk_x, ↓Qret_r, ↓ops_nil, ↓ops_cons, ↓eval_tmp, ↓eval_int, ↓put_some, ↓op_assign, ↓td_d, ↓ret_1, List.getD_cons_zero, List.getD_cons_succ, List.set_cons_zero, List.set_cons_succ, Nat.reduceAdd, Nat.reduceSub, Nat.reduceMul, evK_go, reduceIte, decide_false, Nat.reduceEqDiff, Nat.reduceLT, Nat.lt_irrefl]
theorem index_call (l : List Int) (n : Int) (pure : Bool) (σ : St) (dst : Option Tmp) (K : St → Prop) : CallH Tryd.prog 101 [.l (l.map (I .i64)), I .i64 n] pure σ dst (.mk : Hid K) = OrH ((l.length < 2 ^ 62) ∧ (pure || D.flat (I .i64 (place l n))) = true ∧ evK (σ.put dst (.d (I .i64 (place l n)))) (.mk : Hid K)) (.mk : Hid (CallH Tryd.prog 101 [.l (l.map (I .i64)), I .i64 n] pure σ dst (.mk : Hid K))) := CallH.eq (index_spec l n) pure σ dst K
theorem index_callQ (l : List Int) (n : Int) (pure : Bool) (C : V → Prop) : CallQ Tryd.prog 101 [.l (l.map (I .i64)), I .i64 n] pure (.mk : Hid C) = OrH ((l.length < 2 ^ 62) ∧ (pure || D.flat (I .i64 (place l n))) = true ∧ evK (V.d (I .i64 (place l n))) (.mk : Hid C)) (.mk : Hid (CallQ Tryd.prog 101 [.l (l.map (I .i64)), I .i64 n] pure (.mk : Hid C))) := CallQ.eq (index_spec l n) pure C
theorem place_ge (l : List Int) (n : Int) : decide (0 ≤ place l n) = decide (n ∈ l) := by
  unfold place
  by_cases h : n ∈ l
  · rw [if_pos h, decide_eq_true h, decide_eq_true (by omega)]
  · rw [if_neg h, decide_eq_false h, decide_eq_false (by omega)]
theorem contains_spec (l : List Int) (n : Int) (hpre : l.length < 2 ^ 62) : FnD Tryd.prog 99 [.l (l.map (I .i64)), I .i64 n] (Bo (decide (n ∈ l))) := by
  refine FnD.go Tryd.func99 rfl rfl Tryd.results99 Tryd.ntmps99 ?_
  simp (implicitDefEqProofs := false) (dsimp := false) only [↓aw_seq, ↓aw_reg, ↓Qseq_n, ↓ops_nil, ↓ops_cons, ↓eval_tmp, ↓eval_bool, ↓eval_func, ↓put_some, ↓op_move, ↓op_assign, ↓op_call, isD_d, ↓fnK_f, ↓call_H, ↓callK_H, ↓allT_nil, ↓allT_cons, ↓td_d, List.getD_cons_zero, List.getD_cons_succ, List.set_cons_zero, List.set_cons_succ, List.cons_append, List.nil_append, List.append_nil, List.map_cons, List.map_nil, List.length_cons, List.length_nil, List.all_cons, List.all_nil, Bool.and_self, Nat.reduceAdd, Nat.reduceSub, Nat.reduceMul, Nat.zero_add, List.replicate, evK_go, reduceIte, Nat.reduceEqDiff, Nat.reduceLT, and_self, Int.zero_add]
  simp (implicitDefEqProofs := false) (dsimp := false) only [index_call, hpre, ↓aw_ret, ↓Qseq_n, ↓Qret_r, ↓ops_nil, ↓ops_cons, ↓eval_tmp, ↓eval_int, ↓put_some, ↓binE_i, ↓bi_geq, ↓op_assign, ↓op_bin, ↓td_d, ↓ret_1, List.getD_cons_zero, List.getD_cons_succ, List.set_cons_zero, List.set_cons_succ, Bool.true_and, Bool.true_or, Nat.reduceAdd, Nat.reduceSub, Nat.reduceMul, evK_go, reduceIte, Nat.reduceEqDiff, Nat.reduceLT, true_and]
  (repeat refine OrH.l ?_)
  rw [place_ge]
theorem contains_call (l : List Int) (n : Int) (pure : Bool) (σ : St) (dst : Option Tmp) (K : St → Prop) : CallH Tryd.prog 99 [.l (l.map (I .i64)), I .i64 n] pure σ dst (.mk : Hid K) = OrH ((l.length < 2 ^ 62) ∧ (pure || D.flat (Bo (decide (n ∈ l)))) = true ∧ evK (σ.put dst (.d (Bo (decide (n ∈ l))))) (.mk : Hid K)) (.mk : Hid (CallH Tryd.prog 99 [.l (l.map (I .i64)), I .i64 n] pure σ dst (.mk : Hid K))) := CallH.eq (contains_spec l n) pure σ dst K
theorem contains_callQ (l : List Int) (n : Int) (pure : Bool) (C : V → Prop) : CallQ Tryd.prog 99 [.l (l.map (I .i64)), I .i64 n] pure (.mk : Hid C) = OrH ((l.length < 2 ^ 62) ∧ (pure || D.flat (Bo (decide (n ∈ l)))) = true ∧ evK (V.d (Bo (decide (n ∈ l)))) (.mk : Hid C)) (.mk : Hid (CallQ Tryd.prog 99 [.l (l.map (I .i64)), I .i64 n] pure (.mk : Hid C))) := CallQ.eq (contains_spec l n) pure C
def firstE {α : Type} (f : α → Int) : List α → Int
  | [] => 0
  | x :: l => if f x = 0 then firstE f l else f x
theorem firstE_append {α : Type} (f : α → Int) (l m : List α) (h : firstE f l = 0) : firstE f (l ++ m) = firstE f m := by
  induction l with
  | nil => rfl
  | cons x l ih =>
    unfold firstE at h
    by_cases hx : f x = 0
    · rw [if_pos hx] at h
      show (if f x = 0 then firstE f (l ++ m) else f x) = _
      rw [if_pos hx, ih h]
    · rw [if_neg hx] at h; exact absurd h hx
theorem firstE_take {α : Type} [Inhabited α] (f : α → Int) {l : List α} {k : Nat} (h : k < l.length) (h0 : firstE f (l.take k) = 0) :
    (f (l.getD k default) = 0 → firstE f (l.take (k + 1)) = 0) ∧ (f (l.getD k default) ≠ 0 → firstE f l = f (l.getD k default)) := by
  refine ⟨fun h1 => ?_, fun h1 => ?_⟩
  · rw [take_succ_getD h, firstE_append f _ _ h0]
    show (if _ then _ else _) = _
    rw [if_pos h1]; rfl
  · have e : l = l.take k ++ l.getD k default :: l.drop (k + 1) := by
      conv => lhs; rw [← List.take_append_drop k l]
      congr 1
      rw [List.drop_eq_getElem_cons h]
      congr 1
      rw [List.getD_eq_getElem?_getD, List.getElem?_eq_getElem h]; rfl
    have h2 : firstE f l = firstE f (l.take k ++ l.getD k default :: l.drop (k + 1)) := congrArg _ e
    rw [h2, firstE_append f _ _ h0]
    show (if _ then _ else _) = _
    rw [if_neg h1]
def rowE (n : Nat) (x : List Int) : Int := if x.length ≠ n then 3 else if (x.all fun y => inB y 0 ((n : Int) - 1)) = false then 1 else if x.Nodup then 0 else 6
def stE (L R : List (List Int)) : Int := if 6 < L.length ∨ 6 < R.length then 4 else if L.length ≠ R.length then 3 else if firstE (rowE L.length) L = 0 then firstE (rowE L.length) R else firstE (rowE L.length) L
theorem scheck_spec (L R : List (List Int)) (hpre : (L.length < 2 ^ 62 ∧ ∀ x ∈ L, x.length < 2 ^ 62) ∧ R.length < 2 ^ 62 ∧ ∀ x ∈ R, x.length < 2 ^ 62) : FnD Tryd.prog 61 [.l (L.map liD), .l (R.map liD)] (erD (stE L R)) := by
  obtain ⟨⟨hL, hLx⟩, hR, hRx⟩ := hpre
  refine FnD.go Tryd.func61 rfl rfl Tryd.results61 Tryd.ntmps61 ?_
  simp (implicitDefEqProofs := false) (dsimp := false) only [↓gdK_f, ↓gval_mk, ↓gvL_zero, ↓gvL_succ, ↓aw_seq, ↓aw_reg, ↓Qseq_n, ↓ops_nil, ↓ops_cons, ↓ops_guard, ↓eval_tmp, ↓eval_int, ↓put_some, ↓lenK_l, ↓binE_i, ↓bi_gtr, ↓op_move, ↓op_assign, ↓op_bin, ↓op_len, ↓st_tm, ↓sl69, List.getD_cons_zero, List.getD_cons_succ, List.set_cons_zero, List.set_cons_succ, List.cons_append, List.nil_append, List.map_cons, List.map_nil, List.length_cons, List.length_nil, List.length_map, Nat.reduceAdd, Nat.reduceSub, Nat.reduceMul, Nat.zero_add, List.replicate, evK_go, reduceIte, Nat.reduceEqDiff, Nat.reduceLT, Int.zero_add]
  refine cdK_dec (fun h1 => ?_) (fun h1 => ?_)
  · have e : stE L R = 4 := if_pos (.inl (by omega))
    have hd := decide_eq_true h1
    simp (implicitDefEqProofs := false) (dsimp := false) only [hd, e, eval_nilI, ↓cdK_true, ↓gdK_f, ↓gval_mk, ↓gvL_zero, ↓gvL_succ, ↓aw_cond, ↓aw_seq, ↓aw_ret, ↓aw_reg, ↓Qseq_n, ↓Qseq_r, ↓Qret_r, ↓ops_nil, ↓ops_cons, ↓ops_guard, ↓eval_tmp, ↓eval_int, ↓eval_bool, ↓put_some, ↓bK_b, ↓vK_c, ↓op_assign, ↓op_pick, ↓op_iface, ↓td_d, ↓ret_1, ↓st_tm, ↓nc108, List.getD_cons_zero, List.getD_cons_succ, List.set_cons_zero, List.set_cons_succ, Bool.true_and, Nat.reduceAdd, Nat.reduceSub, Nat.reduceMul, evK_go, reduceIte, Nat.reduceEqDiff, Nat.reduceLT, true_and]
    rfl
  have hd := decide_eq_false h1
  simp (implicitDefEqProofs := false) (dsimp := false) only [hd, eval_nilI, ↓cdK_false, ↓gdK_f, ↓gval_mk, ↓gvL_zero, ↓gvL_succ, ↓aw_cond, ↓Qseq_n, ↓ops_nil, ↓ops_cons, ↓ops_guard, ↓eval_tmp, ↓eval_int, ↓put_some, ↓bK_b, ↓lenK_l, ↓binE_i, ↓bi_gtr, ↓op_move, ↓op_pick, ↓op_bin, ↓op_len, ↓st_tm, ↓sl69, List.getD_cons_zero, List.getD_cons_succ, List.set_cons_zero, List.set_cons_succ, List.length_map, Nat.reduceAdd, Nat.reduceSub, Nat.reduceMul, evK_go, reduceIte, Nat.reduceEqDiff, Nat.reduceLT]
  refine cdK_dec (fun h2 => ?_) (fun h2 => ?_)
  · have e : stE L R = 4 := if_pos (.inr (by omega))
    have hd2 := decide_eq_true h2
    simp (implicitDefEqProofs := false) (dsimp := false) only [hd2, e, ↓aw_seq, ↓aw_ret, ↓aw_reg, ↓Qseq_n, ↓Qseq_r, ↓Qret_r, ↓ops_nil, ↓ops_cons, ↓eval_tmp, ↓eval_int, ↓put_some, ↓vK_c, ↓op_assign, ↓op_iface, ↓td_d, ↓ret_1, ↓nc108, List.getD_cons_zero, List.getD_cons_succ, List.set_cons_zero, List.set_cons_succ, Bool.true_and, Nat.reduceAdd, Nat.reduceSub, Nat.reduceMul, evK_go, reduceIte, Nat.reduceEqDiff, Nat.reduceLT, true_and]
    rfl
  have hd2 := decide_eq_false h2
  simp (implicitDefEqProofs := false) (dsimp := false) only [hd2, ↓cdK_not, ↓aw_cond, ↓aw_seq, ↓aw_skip, ↓aw_reg, ↓Qseq_n, ↓ops_nil, ↓ops_cons, ↓eval_tmp, ↓put_some, ↓bK_b, ↓lenK_l, ↓binE_i, ↓bi_neq, ↓op_move, ↓op_bin, ↓op_len, ↓sl69, List.getD_cons_zero, List.getD_cons_succ, List.set_cons_zero, List.set_cons_succ, List.length_map, Nat.reduceAdd, Nat.reduceSub, Nat.reduceMul, evK_go, reduceIte, Nat.reduceEqDiff, Nat.reduceLT, Int.natCast_inj]
  have e1 : stE L R = if L.length ≠ R.length then 3 else if firstE (rowE L.length) L = 0 then firstE (rowE L.length) R else firstE (rowE L.length) L := if_neg (by omega)
  refine cdK_dec (fun h3 => ?_) (fun h3 => ?_)
  rotate_left
  · have e : stE L R = 3 := by rw [e1, if_pos (by omega)]
    simp (implicitDefEqProofs := false) (dsimp := false) only [e, ↓aw_seq, ↓aw_ret, ↓aw_reg, ↓Qseq_n, ↓Qseq_r, ↓Qret_r, ↓ops_nil, ↓ops_cons, ↓eval_tmp, ↓eval_int, ↓put_some, ↓vK_c, ↓op_assign, ↓op_iface, ↓td_d, ↓ret_1, ↓nc108, List.getD_cons_zero, List.getD_cons_succ, List.set_cons_zero, List.set_cons_succ, Bool.true_and, Nat.reduceAdd, Nat.reduceSub, Nat.reduceMul, evK_go, reduceIte, Nat.reduceEqDiff, Nat.reduceLT, true_and]
    rfl
  have hlen : R.length = L.length := by omega
  rw [if_neg (by omega)] at e1
  have hL6 : L.length ≤ 6 := by omega
  generalize hn : L.length = n at *
  simp (implicitDefEqProofs := false) (dsimp := false) only [↓aw_seq, ↓aw_block, ↓aw_skip, ↓aw_loop, ↓aw_reg, ↓Qseq_n, ↓ops_nil, ↓ops_cons, ↓eval_tmp, ↓eval_int, ↓put_some, ↓dK_d, ↓op_move, ↓op_build, ↓cells_l, ↓one_l, ↓bd118, List.getD_cons_zero, List.getD_cons_succ, List.set_cons_zero, List.set_cons_succ, List.cons_append, List.nil_append, List.length_cons, List.length_nil, List.all_cons, List.all_nil, Bool.true_and, Bool.and_self, Nat.reduceAdd, Nat.reduceSub, Nat.reduceMul, Nat.zero_add, evK_go, reduceIte, Nat.reduceEqDiff, Nat.reduceLT, and_self, true_and, Int.zero_add]
  refine loopW (fun i : Nat => { tm := slots 67 [(28, .d (.s [.l (L.map liD), .l (R.map liD)])), (29, .d (I .i64 i))], bx := [], rw := [] })
    (fun i => i ≤ 2 ∧ (1 ≤ i → firstE (rowE n) L = 0) ∧ (2 ≤ i → firstE (rowE n) R = 0)) (fun i => 2 - i) 0 ⟨by simp, by simp, by simp⟩ ?_ ?_
  · refine Wkn.of [] [] ?_; simp (implicitDefEqProofs := false) (dsimp := false) only [List.set_cons_zero, List.set_cons_succ, Bool.and_self, Nat.reduceAdd, Nat.reduceSub, Nat.reduceMul, List.replicate, evK_go, reduceIte, Nat.reduceEqDiff, Nat.reduceLT, and_self, List.foldl_cons, List.foldl_nil, Int.cast_ofNat_Int, slots, wkL_nil, wkL_cons, wkB_nil, wkR_nil, wkV_j, wkV_d, frz_d, reduceCtorEq]
  · rintro i ⟨hi, hi1, hi2⟩
    simp (implicitDefEqProofs := false) (dsimp := false) only [slots, ↓aw_cond, ↓aw_seq, ↓aw_reg, ↓Qseq_n, ↓ops_nil, ↓ops_cons, ↓eval_tmp, ↓eval_int, ↓put_some, ↓bK_b, ↓binE_i, ↓bi_lss, ↓op_bin, List.getD_cons_zero, List.getD_cons_succ, List.set_cons_zero, List.set_cons_succ, Nat.reduceAdd, Nat.reduceSub, Nat.reduceMul, List.replicate, evK_go, reduceIte, Nat.reduceEqDiff, Nat.reduceLT, List.foldl_cons, List.foldl_nil]
    refine cdK_dec (fun h4 => ?_) (fun h4 => ?_)
    rotate_left
    · obtain rfl : i = 2 := by omega
      have e : stE L R = 0 := by rw [e1, if_pos (hi1 (by omega)), hi2 (by omega)]
      simp (implicitDefEqProofs := false) (dsimp := false) only [e, eval_nilI, ↓aw_seq, ↓aw_exit, ↓aw_ret, ↓aw_reg, ↓Qseq_n, ↓Qseq_x, ↓Qblk_x, ↓Qret_r, ↓ops_nil, ↓ops_cons, ↓eval_tmp, ↓put_some, ↓op_assign, ↓td_d, ↓ret_1, List.getD_cons_zero, List.getD_cons_succ, List.set_cons_zero, List.set_cons_succ, Nat.reduceAdd, Nat.reduceSub, Nat.reduceMul, evK_go, reduceIte, Nat.reduceEqDiff, Nat.reduceLT, Int.cast_ofNat_Int]
      rfl
    obtain ⟨S, hS, hSl, hSx, hSE, hSN⟩ : ∃ S : List (List Int), [D.l (L.map liD), D.l (R.map liD)][i]? = some (D.l (S.map liD)) ∧ S.length = n ∧ (∀ x ∈ S, x.length < 2 ^ 62) ∧ (firstE (rowE n) S ≠ 0 → stE L R = firstE (rowE n) S) ∧ (firstE (rowE n) S = 0 → (1 ≤ i + 1 → firstE (rowE n) L = 0) ∧ (2 ≤ i + 1 → firstE (rowE n) R = 0)) := by
      match i, h4, hi1 with
      | 0, _, _ => exact ⟨L, rfl, hn, hLx, fun h => by rw [e1, if_neg h], fun h => ⟨fun _ => h, fun h => by omega⟩⟩
      | 1, _, hi1 => exact ⟨R, rfl, hlen, hRx, fun h => by rw [e1, if_pos (hi1 (by omega))], fun h => ⟨fun _ => hi1 (by omega), fun _ => h⟩⟩
      | i + 2, h4, _ => exact absurd h4 (by omega)
    have hi2 : i < 2 := by omega
    simp (implicitDefEqProofs := false) (dsimp := false) only [↓atK_H, ↓aw_seq, ↓aw_block, ↓aw_skip, ↓aw_reg, ↓Qseq_n, ↓ops_cons, ↓eval_tmp, ↓iK_i, ↓sK_s, ↓op_index, ↓ty69, ↓ar118, List.getD_cons_zero, List.getD_cons_succ, Bool.true_and, Nat.reduceAdd, Nat.reduceSub, Nat.reduceMul, Int.toNat_natCast, evK_go, reduceIte, Nat.reduceEqDiff, Nat.reduceLT, true_and, Int.cast_ofNat_Int, Int.natCast_nonneg]
    refine ⟨by omega, atH_of _ hS ?_⟩
    simp (implicitDefEqProofs := false) (dsimp := false) only [↓aw_seq, ↓aw_block, ↓aw_loop, ↓aw_reg, ↓Qseq_n, ↓ops_nil, ↓ops_cons, ↓eval_tmp, ↓eval_int, ↓put_some, ↓lenK_l, ↓op_move, ↓op_assign, ↓op_len, ↓sl69, List.getD_cons_zero, List.getD_cons_succ, List.set_cons_zero, List.set_cons_succ, List.length_map, Nat.reduceAdd, Nat.reduceSub, Nat.reduceMul, evK_go, reduceIte, Nat.reduceEqDiff, Nat.reduceLT]
    refine loopW (fun j : Nat => { tm := slots 67 [(6, .d (.l (S.map liD))), (28, .d (.s [.l (L.map liD), .l (R.map liD)])), (29, .d (I .i64 i)), (32, .d (.l (S.map liD))), (33, .d (I .i64 (n : Int))), (34, .d (I .i64 j))], bx := [], rw := [] })
      (fun j => j ≤ n ∧ firstE (rowE n) (S.take j) = 0) (fun j => n - j) 0 ⟨by simp, by simp [firstE]⟩ ?_ ?_
    · refine Wkn.of [] [] ?_
      simp (implicitDefEqProofs := false) (dsimp := false) only [hSl, List.set_cons_zero, List.set_cons_succ, Bool.and_self, Nat.reduceAdd, Nat.reduceSub, Nat.reduceMul, List.replicate, evK_go, reduceIte, Nat.reduceEqDiff, Nat.reduceLT, and_self, List.foldl_cons, List.foldl_nil, Int.cast_ofNat_Int, slots, wkL_nil, wkL_cons, wkB_nil, wkR_nil, wkV_j, wkV_d, frz_d, reduceCtorEq]
    · rintro j ⟨hj, hj0⟩
      simp (implicitDefEqProofs := false) (dsimp := false) only [slots, ↓aw_cond, ↓aw_seq, ↓aw_reg, ↓Qseq_n, ↓ops_nil, ↓ops_cons, ↓eval_tmp, ↓put_some, ↓bK_b, ↓binE_i, ↓bi_lss, ↓op_bin, List.getD_cons_zero, List.getD_cons_succ, List.set_cons_zero, List.set_cons_succ, Nat.reduceAdd, Nat.reduceSub, Nat.reduceMul, List.replicate, evK_go, reduceIte, Nat.reduceEqDiff, Nat.reduceLT, List.foldl_cons, List.foldl_nil, Int.ofNat_lt]
      refine cdK_dec (fun h5 => ?_) (fun h5 => ?_)
      · have hjS : j < S.length := by omega
        obtain ⟨ht1, ht2⟩ := firstE_take (rowE n) hjS hj0
        have hx62 := hSx _ (getD_mem hjS)
        generalize hxd : S.getD j default = x at ht1 ht2 hx62
        simp (implicitDefEqProofs := false) (dsimp := false) only [h5, hxd, hSl, liD, ↓cdK_not, ↓atK_H, ↓atH_map, ↓aw_cond, ↓aw_seq, ↓aw_block, ↓aw_skip, ↓aw_reg, ↓Qseq_n, ↓ops_nil, ↓ops_cons, ↓eval_tmp, ↓put_some, ↓bK_b, ↓iK_i, ↓lenK_l, ↓binE_i, ↓bi_neq, ↓ldK_q, ↓iaK_l, ↓op_move, ↓op_assign, ↓op_load, ↓op_bin, ↓op_ia, ↓op_len, ↓cells_l, ↓hd_cons, ↓ty24, ↓sl24, ↓sl69, List.getD_cons_zero, List.getD_cons_succ, List.set_cons_zero, List.set_cons_succ, List.length_cons, List.length_nil, List.length_map, Bool.true_and, Nat.reduceAdd, Nat.reduceSub, Nat.reduceMul, Nat.zero_add, Int.toNat_natCast, evK_go, reduceIte, decide_true, Nat.reduceEqDiff, Nat.reduceLT, true_and, Int.zero_add, Int.natCast_nonneg, Int.natCast_inj]
        refine cdK_dec (fun h6 => ?_) (fun h6 => ?_)
        rotate_left
        · have hr : rowE n x = 3 := by unfold rowE; rw [if_pos (by omega)]
          have e := ht2 (by rw [hr]; decide)
          have e2 : stE L R = 3 := by rw [hSE (by rw [e, hr]; decide), e, hr]
          simp (implicitDefEqProofs := false) (dsimp := false) only [e2, ↓aw_seq, ↓aw_ret, ↓aw_reg, ↓Qseq_n, ↓Qseq_r, ↓Qblk_r, ↓Qret_r, ↓ops_nil, ↓ops_cons, ↓eval_tmp, ↓eval_int, ↓put_some, ↓vK_c, ↓op_assign, ↓op_iface, ↓td_d, ↓ret_1, ↓nc108, List.getD_cons_zero, List.getD_cons_succ, List.set_cons_zero, List.set_cons_succ, Bool.true_and, Nat.reduceAdd, Nat.reduceSub, Nat.reduceMul, evK_go, reduceIte, Nat.reduceEqDiff, Nat.reduceLT, true_and]
          rfl
        have h6' : x.length = n := by omega
        simp (implicitDefEqProofs := false) (dsimp := false) only [all_call, hx62, hSl, ↓cdK_not, ↓aw_cond, ↓aw_seq, ↓aw_skip, ↓aw_reg, ↓Qseq_n, ↓ops_nil, ↓ops_cons, ↓eval_tmp, ↓eval_int, ↓eval_func, ↓put_some, ↓bK_b, ↓lenK_l, ↓binE_i, ↓bi_sub, ↓in_i64, ↓op_move, ↓op_bin, ↓op_not, ↓op_len, ↓op_call, isD_d, ↓fnK_f, ↓call_H, ↓callK_H, ↓allT_nil, ↓allT_cons, ↓td_d, ↓sl69, List.getD_cons_zero, List.getD_cons_succ, List.set_cons_zero, List.set_cons_succ, List.append_nil, List.length_map, List.all_cons, List.all_nil, Bool.true_and, Bool.and_self, Bool.true_or, Nat.reduceAdd, Nat.reduceSub, Nat.reduceMul, evK_go, reduceIte, Nat.reduceEqDiff, Nat.reduceLT, and_self, true_and]
        refine ⟨by omega, ?_⟩
        (repeat refine OrH.l ?_)
        refine cdK_split (fun h7 => ?_) (fun h7 => ?_)
        rotate_left
        · have hr : rowE n x = 1 := by unfold rowE; rw [if_neg (by omega), if_pos h7]
          have e := ht2 (by rw [hr]; decide)
          have e2 : stE L R = 1 := by rw [hSE (by rw [e, hr]; decide), e, hr]
          simp (implicitDefEqProofs := false) (dsimp := false) only [e2, ↓aw_seq, ↓aw_ret, ↓aw_reg, ↓Qseq_n, ↓Qseq_r, ↓Qblk_r, ↓Qret_r, ↓ops_nil, ↓ops_cons, ↓eval_tmp, ↓eval_int, ↓put_some, ↓vK_c, ↓op_assign, ↓op_iface, ↓td_d, ↓ret_1, ↓nc108, List.getD_cons_zero, List.getD_cons_succ, List.set_cons_zero, List.set_cons_succ, Bool.true_and, Nat.reduceAdd, Nat.reduceSub, Nat.reduceMul, evK_go, reduceIte, Nat.reduceEqDiff, Nat.reduceLT, true_and]
          rfl
        simp (implicitDefEqProofs := false) (dsimp := false) only [↓aw_seq, ↓aw_block, ↓aw_skip, ↓aw_loop, ↓aw_reg, ↓Qseq_n, ↓ops_nil, ↓ops_cons, ↓eval_tmp, ↓eval_int, ↓put_some, ↓lenK_l, ↓op_move, ↓op_len, ↓sl24, List.getD_cons_zero, List.getD_cons_succ, List.set_cons_zero, List.set_cons_succ, List.length_map, Nat.reduceAdd, Nat.reduceSub, Nat.reduceMul, evK_go, reduceIte, Nat.reduceEqDiff, Nat.reduceLT]
        refine loopW (fun p : Nat => { tm := slots 67 [(6, .d (.l (S.map liD))), (8, .d (.l (x.map (I .i64)))), (28, .d (.s [.l (L.map liD), .l (R.map liD)])), (29, .d (I .i64 i)), (32, .d (.l (S.map liD))), (33, .d (I .i64 (n : Int))), (34, .d (I .i64 j)), (51, .d (.l (x.map (I .i64)))), (52, .d (I .i64 (n : Int))), (53, .d (I .i64 p))], bx := [], rw := [] })
          (fun p => p ≤ n ∧ (x.take p).Nodup) (fun p => n - p) 0 ⟨by simp, by simp⟩ ?_ ?_
        · refine Wkn.of [] [] ?_
          simp (implicitDefEqProofs := false) (dsimp := false) only [h6', List.set_cons_zero, List.set_cons_succ, Bool.and_self, Nat.reduceAdd, Nat.reduceSub, Nat.reduceMul, List.replicate, evK_go, reduceIte, decide_true, Bool.not_true, Nat.reduceEqDiff, Nat.reduceLT, and_self, List.foldl_cons, List.foldl_nil, Int.cast_ofNat_Int, slots, wkL_nil, wkL_cons, wkB_nil, wkR_nil, wkV_j, wkV_d, frz_d, reduceCtorEq]
        · rintro p ⟨hp, hnd⟩
          simp (implicitDefEqProofs := false) (dsimp := false) only [slots, ↓aw_cond, ↓aw_seq, ↓aw_reg, ↓Qseq_n, ↓ops_nil, ↓ops_cons, ↓eval_tmp, ↓put_some, ↓bK_b, ↓binE_i, ↓bi_lss, ↓op_bin, List.getD_cons_zero, List.getD_cons_succ, List.set_cons_zero, List.set_cons_succ, Nat.reduceAdd, Nat.reduceSub, Nat.reduceMul, List.replicate, evK_go, reduceIte, Nat.reduceEqDiff, Nat.reduceLT, List.foldl_cons, List.foldl_nil, Int.ofNat_lt]
          refine cdK_dec (fun h8 => ?_) (fun h8 => ?_)
          · have hpx : p < x.length := by omega
            have hp62 : (x.take p).length < 2 ^ 62 := by simp; omega
            simp (implicitDefEqProofs := false) (dsimp := false) only [hpx, ← List.map_take, contains_call, hp62, ↓atK_H, ↓atH_map, ↓aw_cond, ↓aw_seq, ↓aw_block, ↓aw_skip, ↓aw_reg, ↓Qseq_n, ↓ops_nil, ↓ops_cons, ↓eval_tmp, ↓eval_func, ↓put_some, ↓bK_b, ↓iK_i, ↓optI_none, ↓optI_some, ↓ldK_q, ↓iaK_l, ↓sliK_l, ↓op_move, ↓op_assign, ↓op_load, ↓op_ia, ↓op_slice, ↓op_call, isD_d, ↓fnK_f, ↓call_H, ↓callK_H, ↓allT_nil, ↓allT_cons, ↓td_d, ↓cells_c, ↓hd_cons, ↓ty3, ↓sl24, List.getD_cons_zero, List.getD_cons_succ, List.set_cons_zero, List.set_cons_succ, List.append_nil, List.length_cons, List.length_nil, List.length_map, List.all_cons, List.all_nil, Bool.true_and, Bool.and_self, Bool.true_or, Nat.reduceAdd, Nat.reduceSub, Nat.reduceMul, Nat.zero_add, Int.toNat_natCast, Int.toNat_zero, evK_go, reduceIte, Nat.reduceEqDiff, Nat.reduceLT, and_self, true_and, Option.getD_none, Option.getD_some, Int.zero_add, List.drop_zero, Int.ofNat_le, Int.natCast_nonneg]
            refine ⟨⟨by omega, by omega⟩, fun y hy => ?_, ?_⟩
            · obtain ⟨q, _, rfl⟩ := List.mem_map.1 hy
              rfl
            (repeat refine OrH.l ?_)
            refine cdK_dec (fun h9 => ?_) (fun h9 => ?_)
            · have hno : ¬ x.Nodup := fun hn => by
                have e := take_succ_getD hpx
                have h10 : (x.take (p + 1)).Nodup := hn.sublist (List.take_sublist _ _)
                rw [e] at h10
                exact (List.nodup_append.1 h10).2.2 _ h9 _ (by simp) rfl
              have hr : rowE n x = 6 := by unfold rowE; rw [if_neg (by omega), if_neg (by rw [h7]; decide), if_neg hno]
              have e := ht2 (by rw [hr]; decide)
              have e2 : stE L R = 6 := by rw [hSE (by rw [e, hr]; decide), e, hr]
              simp (implicitDefEqProofs := false) (dsimp := false) only [e2, ↓aw_seq, ↓aw_ret, ↓aw_reg, ↓Qseq_n, ↓Qseq_r, ↓Qblk_r, ↓Qret_r, ↓ops_nil, ↓ops_cons, ↓eval_tmp, ↓eval_int, ↓put_some, ↓vK_c, ↓op_assign, ↓op_iface, ↓td_d, ↓ret_1, ↓nc108, List.getD_cons_zero, List.getD_cons_succ, List.set_cons_zero, List.set_cons_succ, Bool.true_and, Nat.reduceAdd, Nat.reduceSub, Nat.reduceMul, evK_go, reduceIte, Nat.reduceEqDiff, Nat.reduceLT, true_and]
              rfl
            · simp (implicitDefEqProofs := false) (dsimp := false) only [↓aw_skip, ↓aw_reg, ↓Qseq_n, ↓Qblk_n, ↓ops_nil, ↓ops_cons, ↓eval_tmp, ↓eval_int, ↓put_some, ↓binE_i, ↓bi_add, ↓in_i64, ↓op_move, ↓op_bin, List.getD_cons_zero, List.getD_cons_succ, List.set_cons_zero, List.set_cons_succ, Nat.reduceAdd, Nat.reduceSub, Nat.reduceMul, evK_go, reduceIte, Nat.reduceEqDiff, Nat.reduceLT]
              refine ⟨by omega, p + 1, ⟨by omega, ?_⟩, by omega, ?_⟩
              · rw [take_succ_getD hpx]
                refine List.nodup_append.2 ⟨hnd, by simp, fun a ha b hb e => ?_⟩
                rw [List.mem_singleton.1 hb] at e
                exact h9 (e ▸ ha)
              · refine Wkn.of [] [] ?_; simp (implicitDefEqProofs := false) (dsimp := false) only [List.set_cons_zero, List.set_cons_succ, Bool.and_self, Nat.reduceAdd, Nat.reduceSub, Nat.reduceMul, List.replicate, evK_go, reduceIte, Nat.reduceEqDiff, Nat.reduceLT, and_self, List.foldl_cons, List.foldl_nil, Int.cast_ofNat_Int, Int.natCast_add, slots, wkL_nil, wkL_cons, wkB_nil, wkR_nil, wkV_j, wkV_d, frz_d, reduceCtorEq]
          · obtain rfl : p = n := by omega
            rw [List.take_of_length_le (by omega)] at hnd
            have hr : rowE p x = 0 := by unfold rowE; rw [if_neg (by omega), if_neg (by rw [h7]; decide), if_pos hnd]
            simp (implicitDefEqProofs := false) (dsimp := false) only [eval_nilI, ↓aw_seq, ↓aw_exit, ↓aw_ret, ↓aw_reg, ↓Qseq_n, ↓Qseq_x, ↓Qblk_n, ↓Qblk_x, ↓Qret_r, ↓ops_nil, ↓ops_cons, ↓eval_tmp, ↓eval_int, ↓put_some, ↓binE_i, ↓bi_add, ↓in_i64, ↓op_move, ↓op_assign, ↓op_bin, ↓td_d, ↓ret_1, List.getD_cons_zero, List.getD_cons_succ, List.set_cons_zero, List.set_cons_succ, Nat.reduceAdd, Nat.reduceSub, Nat.reduceMul, evK_go, reduceIte, decide_false, Nat.reduceEqDiff, Nat.reduceLT, Nat.lt_irrefl]
            refine ⟨by omega, j + 1, ⟨by omega, ht1 hr⟩, by omega, ?_⟩
            refine Wkn.of [] [] ?_; simp (implicitDefEqProofs := false) (dsimp := false) only [List.set_cons_zero, List.set_cons_succ, Bool.and_self, Nat.reduceAdd, Nat.reduceSub, Nat.reduceMul, List.replicate, evK_go, reduceIte, Nat.reduceEqDiff, Nat.reduceLT, and_self, List.foldl_cons, List.foldl_nil, Int.cast_ofNat_Int, Int.natCast_add, slots, wkL_nil, wkL_cons, wkB_nil, wkR_nil, wkV_j, wkV_d, frz_d, reduceCtorEq]
      · obtain rfl : j = n := by omega
        rw [List.take_of_length_le (by omega)] at hj0
        obtain ⟨g1, g2⟩ := hSN hj0
        simp (implicitDefEqProofs := false) (dsimp := false) only [eval_nilI, ↓aw_seq, ↓aw_exit, ↓aw_ret, ↓aw_reg, ↓Qseq_n, ↓Qseq_x, ↓Qblk_n, ↓Qblk_x, ↓Qret_r, ↓ops_nil, ↓ops_cons, ↓eval_tmp, ↓eval_int, ↓put_some, ↓binE_i, ↓bi_add, ↓in_i64, ↓op_move, ↓op_assign, ↓op_bin, ↓td_d, ↓ret_1, List.getD_cons_zero, List.getD_cons_succ, List.set_cons_zero, List.set_cons_succ, Nat.reduceAdd, Nat.reduceSub, Nat.reduceMul, evK_go, reduceIte, decide_false, Nat.reduceEqDiff, Nat.reduceLT, Nat.lt_irrefl]
        refine ⟨by omega, i + 1, ⟨by omega, g1, g2⟩, by omega, ?_⟩
        refine Wkn.of [] [] ?_; simp (implicitDefEqProofs := false) (dsimp := false) only [List.set_cons_zero, List.set_cons_succ, Bool.and_self, Nat.reduceAdd, Nat.reduceSub, Nat.reduceMul, List.replicate, evK_go, reduceIte, Nat.reduceEqDiff, Nat.reduceLT, and_self, List.foldl_cons, List.foldl_nil, Int.cast_ofNat_Int, Int.natCast_add, slots, wkL_nil, wkL_cons, wkB_nil, wkR_nil, wkV_j, wkV_d, frz_d, reduceCtorEq]
theorem scheck_call (L R : List (List Int)) (pure : Bool) (σ : St) (dst : Option Tmp) (K : St → Prop) : CallH Tryd.prog 61 [.l (L.map liD), .l (R.map liD)] pure σ dst (.mk : Hid K) = OrH (((L.length < 2 ^ 62 ∧ ∀ x ∈ L, x.length < 2 ^ 62) ∧ R.length < 2 ^ 62 ∧ ∀ x ∈ R, x.length < 2 ^ 62) ∧ (pure || D.flat (erD (stE L R))) = true ∧ evK (σ.put dst (.d (erD (stE L R)))) (.mk : Hid K)) (.mk : Hid (CallH Tryd.prog 61 [.l (L.map liD), .l (R.map liD)] pure σ dst (.mk : Hid K))) := CallH.eq (scheck_spec L R) pure σ dst K
theorem scheck_callQ (L R : List (List Int)) (pure : Bool) (C : V → Prop) : CallQ Tryd.prog 61 [.l (L.map liD), .l (R.map liD)] pure (.mk : Hid C) = OrH (((L.length < 2 ^ 62 ∧ ∀ x ∈ L, x.length < 2 ^ 62) ∧ R.length < 2 ^ 62 ∧ ∀ x ∈ R, x.length < 2 ^ 62) ∧ (pure || D.flat (erD (stE L R))) = true ∧ evK (V.d (erD (stE L R))) (.mk : Hid C)) (.mk : Hid (CallQ Tryd.prog 61 [.l (L.map liD), .l (R.map liD)] pure (.mk : Hid C))) := CallQ.eq (scheck_spec L R) pure C
end Go.Proofs

namespace Go.Proofs
open Go.Aw Go.ChangeShapes Go.WideShapes Go.ChangeAt Go.RowKit Go.Deep
set_option linter.unusedVariables false
set_option maxRecDepth 100000
theorem tkids : Kids Tryd.prog (· < Tryd.prog.types.size) := kids_rows (by kernel_rfl) (by kernel_rfl)
theorem tfull : ∀ t e, t < Tryd.prog.types.size → Tryd.prog.underlying t = some (.slice e) → 0 < Tryd.prog.cellsOf e := slices_full_of _ (by kernel_rfl)
theorem tu3 : Tryd.prog.underlying 3 = some (.int .i64) := by kernel_rfl
theorem tu4 : Tryd.prog.underlying 4 = some .bool := by kernel_rfl
theorem tu22 : Tryd.prog.underlying 22 = some (.slice 41) := by kernel_rfl
theorem tc35 : Tryd.prog.cellsOf 41 = 2 := by kernel_rfl
theorem tc3 : Tryd.prog.cellsOf 3 = 1 := by kernel_rfl
theorem tb35 : Tryd.prog.bytesOf 41 = 16 := by kernel_rfl
section
variable {H : Type} {enc : TypeId × Value → H} {P : Program} {w w' : World} {base : Nat} {spare : Nat → Bool} {held : Bool}
theorem trodAll_later : ∀ {ts : List TypeId} {vs : List Value} {ds : List (DataW H)} {ps : List MemPlace}, DataW.TrodAll enc P w base spare held ts vs ds ps → (∀ p ∈ ps, w.sameAt w' p) → DataW.TrodAll enc P w' base spare held ts vs ds ps
  | [], [], [], _, h, _ => h
  | _ :: _, _ :: _, _ :: _, _, ⟨p, q, ⟨n, h1⟩, h2, e⟩, hs => ⟨p, q, ⟨n, DataW.trod_carry n _ _ _ h1 (fun x hx => hs x (by rw [e]; exact List.mem_append_left _ hx))⟩, trodAll_later h2 (fun x hx => hs x (by rw [e]; exact List.mem_append_right _ hx)), e⟩
end
/-- A law's end: true, and all as it was. -/
theorem law_post {H : Type} {enc : TypeId × Value → H} {fn : Func} {s : ChangeSpec} {W W' : World} {args : Array Value} {ds gs : List (DataW H)} {before : List MemPlace} (hv : s.vars = []) (hrt : fn.resultTypes = #[4])
    (hpt : ∀ t ∈ fn.params.toList, t < Tryd.prog.types.size) (hW : DataW.Whole enc Tryd.prog fn.params.toList s.vars false W args.toList ds gs before)
    (hs : (s.fn H (ds ++ gs)).results = [.lit (.bool true)] ∧ (s.fn H (ds ++ gs)).args = ds ∧ (s.fn H (ds ++ gs)).vars = []) (hB : Below W.heap.size W W') : s.post enc Tryd.prog fn false true false false W args (.bool true) W' := by
  have hW' := hW
  obtain ⟨p, q, hA, hV, rfl, hfz, hnd⟩ := hW
  have hlt := hW'.lt
  rw [hv] at hV
  obtain ⟨rfl, rfl⟩ := trodVars_none hV
  obtain ⟨h1, h2, h3⟩ := hs
  refine ⟨ds, [], p ++ [], [], p, [], hW', ?_, ?_, ?_, hB.frame _, fun h => by cases h⟩
  · rw [h1, hrt]
    exact trodAll_mk1 (shut_bool tu4 true)
  · rw [h2]
    refine DataW.TrodAll.respare tkids tfull hpt (trodAll_later hA fun x hx => hB.same (hlt x (List.mem_append_left _ hx))) fun x hx => ?_
    simpa using hlt x (List.mem_append_left _ hx)
  · rw [h3, hv]; rfl
/-- What lies there already. -/
abbrev Old (W : World) (b : Nat) : Prop := b < W.heap.size
section
variable {H : Type} {enc : TypeId × Value → H} {W : World} {held : Bool}
theorem arg_int {v : Value} {d : DataW H} {p : List MemPlace} {r : Reach} {b0 : Nat} (hval : Value.okWide Tryd.prog W r b0 3 v) (h : DataW.Trod enc Tryd.prog W 0 (fun _ => true) held 3 v d p) : ∃ n : Int, RelD W (Old W) (I .i64 n) v ∧ (-9223372036854775808 ≤ n ∧ n ≤ 9223372036854775807) := by
  obtain ⟨n, rfl, _, _, hw⟩ := open_int tu3 hval h
  exact ⟨n, .c _, by simpa [Lit.wf, IntKind.min, IntKind.max, IntKind.signed, IntKind.bits] using hw⟩
theorem arg_lines {v : Value} {d : DataW H} {p : List MemPlace} {r : Reach} {b0 : Nat} (hval : Value.okWide Tryd.prog W r b0 22 v) (h : DataW.Trod enc Tryd.prog W 0 (fun _ => true) held 22 v d p) :
    ∃ l : List (Int × Int), RelD W (Old W) (.l (l.map lnD)) v ∧ ((d = .nil ∧ l = []) ∨ ∃ elems spare, d = .slice elems spare ∧ elems.length = l.length) := by
  obtain ⟨a0, len, cap, rfl⟩ := okWide_slice tu22 hval
  obtain ⟨fuel, hf⟩ := h
  rcases open_slice_pairs tu22 Tryd.underlying41 tc35 rfl rfl tc3 tc3 hf with ⟨hcs, hx⟩ | ⟨a, len', cap', m, n, V0, V1, D0, D1, P0, P1, hcs, _, hl, hm, hmm, hx, hc⟩
  · simp [Value.cells] at hcs
    obtain ⟨rfl, rfl, rfl⟩ := hcs
    simp (implicitDefEqProofs := false) (dsimp := false) only [Prod.mk.injEq] at hx
    exact ⟨[], .nl none 0, .inl ⟨hx.1, rfl⟩⟩
  · simp [Value.cells] at hcs
    obtain ⟨rfl, rfl, rfl⟩ := hcs
    simp (implicitDefEqProofs := false) (dsimp := false) only [Prod.mk.injEq] at hx
    simp (implicitDefEqProofs := false) (dsimp := false) only [if_true] at hmm
    subst hmm
    have hint : ∀ i, ∃ q : Int × Int, i < len → W.cell? (a.add (i * 2)) = some (.int .i64 q.1) ∧ W.cell? (a.add (i * 2 + 1)) = some (.int .i64 q.2) := by
      intro i
      by_cases hi : i < len
      · obtain ⟨h1, h2, h3, h4⟩ := hc i (by omega)
        obtain ⟨x, e1, _, _⟩ := DataW.trod_int tu3 h3
        obtain ⟨y, e2, _, _⟩ := DataW.trod_int tu3 h4
        simp (implicitDefEqProofs := false) (dsimp := false) only [List.cons.injEq, and_true] at e1 e2
        exact ⟨(x, y), fun _ => ⟨by rw [h1, e1], by rw [h2, e2]⟩⟩
      · exact ⟨(0, 0), fun h => absurd h hi⟩
    obtain ⟨Q, hQ⟩ : ∃ Q : Nat → Int × Int, ∀ i, i < len → W.cell? (a.add (i * 2)) = some (.int .i64 (Q i).1) ∧ W.cell? (a.add (i * 2 + 1)) = some (.int .i64 (Q i).2) := ⟨fun i => Classical.choose (hint i), fun i => Classical.choose_spec (hint i)⟩
    refine ⟨(List.range len).map Q, ?_, .inr ⟨_, _, hx.1, by simp⟩⟩
    by_cases h0 : len = 0
    · subst h0; exact .nl _ _
    have hxs : ∀ (i : Nat) (x : D), (((List.range len).map Q).map lnD)[i]? = some x → i < len ∧ x = lnD (Q i) := by
      intro i x hx
      rw [List.getElem?_map, List.getElem?_map] at hx
      by_cases hi : i < len
      · rw [List.getElem?_range hi] at hx
        simp at hx
        exact ⟨hi, hx.symm⟩
      · rw [List.getElem?_eq_none (by simp; omega)] at hx; cases hx
    have hlen : len = (((List.range len).map Q).map lnD).length := by simp
    have hrel := RelD.l (w := W) (N := Old W) (((List.range len).map Q).map lnD) a _ 2 (fun i k => if k = 0 then .int .i64 (Q i).1 else .int .i64 (Q i).2) (by rw [← hlen]; exact hl) ?_ ?_ ?_ ?_
    · rw [← hlen] at hrel
      exact hrel
    · have := (hQ 0 (by omega)).1
      unfold World.cell? at this
      split at this
      · rename_i C et fr hb
        have hb' := (Array.getElem?_eq_some_iff.1 hb).1
        rw [add_block] at hb'
        exact hb'
      · cases this
    · intro i x hx
      obtain ⟨_, rfl⟩ := hxs i x hx
      rfl
    · intro i k x y hx hy
      obtain ⟨hi, rfl⟩ := hxs i x hx
      match k, hy with
      | 0, hy => exact (hQ i hi).1
      | 1, hy => exact (hQ i hi).2
    · intro i k x y hx hy
      obtain ⟨hi, rfl⟩ := hxs i x hx
      match k, hy with
      | 0, hy => cases hy; exact .c _
      | 1, hy => cases hy; exact .c _
theorem arg_line {v : Value} {d : DataW H} {p : List MemPlace} {r : Reach} {b0 : Nat} (hval : Value.okWide Tryd.prog W r b0 41 v) (h : DataW.Trod enc Tryd.prog W 0 (fun _ => true) held 41 v d p) :
    ∃ q : Int × Int, RelD W (Old W) (lnD q) v ∧ True := by
  obtain ⟨v0, v1, y0, y1, n, rfl, _, _, h3, h4⟩ := Joins.open_agg2 Tryd.underlying41 (by kernel_rfl) tc35 hval h
  obtain ⟨x, e1, _, _⟩ := DataW.trod_int tu3 h3
  obtain ⟨y, e2, _, _⟩ := DataW.trod_int tu3 h4
  simp (implicitDefEqProofs := false) (dsimp := false) only [List.cons.injEq, and_true] at e1 e2
  subst e1
  subst e2
  refine ⟨(x, y), ?_, trivial⟩
  refine RelD.s _ _ (by rfl) fun k z u hz hu => ?_
  match k, hz, hu with
  | 0, hz, hu => cases hz; cases hu; exact .c _
  | 1, hz, hu => cases hz; cases hu; exact .c _
theorem lines_len {ts : List TypeId} {ds : List (DataW H)} {j : Nat} {l : List (Int × Int)} (h : (DataW.weightsEach Tryd.prog ts ds).all (· ≤ reachBytes) = true) (ht : ts[j]? = some 22) {d : DataW H} (hd : ds[j]? = some d)
    (hl : (d = .nil ∧ l = []) ∨ ∃ elems spare, d = .slice elems spare ∧ elems.length = l.length) : l.length < 2 ^ 43 := by
  rcases hl with ⟨_, rfl⟩ | ⟨elems, spare, rfl, e⟩
  · simp
  · have := sized_slice h ht hd tu22
    rw [tb35] at this
    have := reachBytes_lt
    omega
end
theorem argsOK_nil (w : World) (N : Nat → Prop) : ArgsOK w N [] [] := ⟨rfl, fun k d v h => by simp at h⟩
theorem argsOK_cons {w : World} {N : Nat → Prop} {d : D} {ds : List D} {v : Value} {vs : List Value} (h : RelD w N d v) (hs : ArgsOK w N ds vs) : ArgsOK w N (d :: ds) (v :: vs) :=
  ⟨by simp [hs.1], fun k d' v' hd hv => by
    cases k with
    | zero => simp at hd hv; subst hd; subst hv; exact h
    | succ k => exact hs.2 k d' v' (by simpa using hd) (by simpa using hv)⟩
theorem Tryd.et : Tryd.prog.globalNamed "errors.errorType" = some 0 := by kernel_rfl
theorem Tryd.rt : (Tryd.prog.cutTypes.find? (·.1 == "internal/reflectlite.rtype")).map (·.2) = some 142 := by kernel_rfl
theorem Tryd.oneRow : ((List.range 184).filter fun t => Tryd.prog.rowNamed t [101, 114, 114, 111, 114]) = [29] := by kernel_rfl
theorem Tryd.tsize : Tryd.prog.types.size = 184 := by kernel_rfl
theorem hnd_at : hnd Tryd.prog = .iface (142) (.agg #[.pointer (some ⟨1, 29, none⟩)]) := by kernel_rfl
/-- The listed variable's one cell. -/
theorem gl_of_laid {W : World} (h : laidMetH Tryd.prog [("errors.errorType", .iface "internal/reflectlite.rtype" (.agg [.ptr (.lit (.string [101, 114, 114, 111, 114]))]))] W) : Gl Tryd.prog W := fun g hg => by
  obtain rfl := Option.some.inj (Tryd.et.symm.trans hg)
  rw [hnd_at]
  have h' : laidMet Tryd.prog [] W ∧ handlesMet Tryd.prog [("errors.errorType", .iface "internal/reflectlite.rtype" (.agg [.ptr (.lit (.string [101, 114, 114, 111, 114]))]))] W := h
  obtain ⟨name, u, ty, e1, e2, e3, e4, e5⟩ := h'.2 _ (List.mem_singleton.2 rfl)
  have en : name = [101, 114, 114, 111, 114] := (Option.some.inj e1).symm
  subst en
  obtain rfl := Option.some.inj (Tryd.rt.symm.trans e2)
  have hm : ty ∈ (List.range 184).filter fun t => Tryd.prog.rowNamed t [101, 114, 114, 111, 114] := List.mem_filter.2 ⟨List.mem_range.2 (by rw [← Tryd.tsize]; exact e3), e4⟩
  rw [Tryd.oneRow] at hm
  obtain rfl := List.mem_singleton.1 hm
  have hh : typeHandle Tryd.prog (29) = .pointer (some ⟨1, 29, none⟩) := by kernel_rfl
  rw [hh] at e5
  simpa using World.var?_cell Tryd.et e5 0
/-- A law's call. -/
theorem law_calls {f : FuncId} {ds : List D} (h : FnD Tryd.prog f ds (Bo true)) (W : World) (hg : Gl Tryd.prog W) (vs : List Value) (ha : ArgsOK W (Old W) ds vs) : Calls Tryd.prog f vs.toArray W fun e W' => e = .returned (.bool true) ∧ Below W.heap.size W W' := by
  have := callsIn_wide.1 (h.2 W (Old W) vs hg (fun b h => h) ha)
  refine this.mono fun e W' ⟨r, v, hr, he, hB, hres⟩ => ?_
  subst hr
  have hv : v = .bool true := relD_c hres
  exact ⟨by rw [he, hv], hB⟩
end Go.Proofs

namespace Go.Proofs
open Go.Aw Go.ChangeShapes Go.WideShapes Go.ChangeAt Go.RowKit Go.Deep
set_option linter.unusedVariables false
set_option maxRecDepth 100000
theorem tu28 : Tryd.prog.underlying 24 = some (.slice 3) := by kernel_rfl
theorem tu44 : Tryd.prog.underlying 69 = some (.slice 24) := by kernel_rfl
theorem tc28 : Tryd.prog.cellsOf 24 = 1 := by kernel_rfl
theorem tb3 : Tryd.prog.bytesOf 3 = 8 := by kernel_rfl
theorem tb28 : Tryd.prog.bytesOf 24 = 24 := by kernel_rfl
section
variable {H : Type} {enc : TypeId × Value → H} {W : World} {held : Bool}
theorem old_cell {W : World} {a : Addr} {i : Nat} {v : Value} (h : W.cell? (a.add i) = some v) : Old W a.block := by
  unfold World.cell? at h
  split at h
  · rename_i C et fr hb
    have hb' := (Array.getElem?_eq_some_iff.1 hb).1
    rw [add_block] at hb'
    exact hb'
  · cases h
theorem ints_rel {W : World} {a : Addr} {len cap : Nat} {zs : List Int} (hl : len ≤ cap) (hz : len ≤ zs.length) (hc : ∀ i, i < len → W.cell? (a.add i) = some (.int .i64 (zs.getD i 0))) :
    RelD W (Old W) (.l ((zs.take len).map (I .i64))) (.slice (some a) len cap) := by
  by_cases h0 : len = 0
  · subst h0; exact .nl _ _
  have hxs : ∀ (i : Nat) (x : D), ((zs.take len).map (I .i64))[i]? = some x → i < len ∧ x = I .i64 (zs.getD i 0) := by
    intro i x hx
    rw [List.getElem?_map] at hx
    by_cases hi : i < len
    · rw [List.getElem?_take_of_lt hi, List.getElem?_eq_getElem (by omega)] at hx
      simp at hx
      refine ⟨hi, ?_⟩
      rw [List.getD_eq_getElem?_getD, List.getElem?_eq_getElem (by omega)]
      exact hx.symm
    · rw [List.getElem?_eq_none (by simp; omega)] at hx; cases hx
  have hlen : len = ((zs.take len).map (I .i64)).length := by simp; omega
  have hrel := RelD.l (w := W) (N := Old W) ((zs.take len).map (I .i64)) a cap 1 (fun i k => .int .i64 (zs.getD i 0)) (by rw [← hlen]; exact hl) (old_cell (hc 0 (by omega))) ?_ ?_ ?_
  · rw [← hlen] at hrel
    exact hrel
  · intro i x hx
    obtain ⟨_, rfl⟩ := hxs i x hx
    rfl
  · intro i k x y hx hy
    obtain ⟨hi, rfl⟩ := hxs i x hx
    match k, hy with
    | 0, hy => rw [show i * 1 + 0 = i by omega]; exact hc i hi
  · intro i k x y hx hy
    obtain ⟨hi, rfl⟩ := hxs i x hx
    match k, hy with
    | 0, hy => cases hy; exact .c _
theorem arg_ints {v : Value} {d : DataW H} {p : List MemPlace} {r : Reach} {b0 : Nat} (hval : Value.okWide Tryd.prog W r b0 24 v) (h : DataW.Trod enc Tryd.prog W 0 (fun _ => true) held 24 v d p) :
    ∃ l : List Int, RelD W (Old W) (.l (l.map (I .i64))) v ∧ ((d = .nil ∧ l = []) ∨ ∃ elems spare, d = .slice elems spare ∧ elems.length = l.length) := by
  obtain ⟨a0, len, cap, rfl⟩ := okWide_slice tu28 hval
  obtain ⟨fuel, hf⟩ := h
  rcases open_ints tu28 tu3 tc3 hf with ⟨hcs, hx⟩ | ⟨a, len', cap', zs, hcs, _, hl, hm, hz, hx, hc, _⟩
  · simp [Value.cells] at hcs
    obtain ⟨rfl, rfl, rfl⟩ := hcs
    simp (implicitDefEqProofs := false) (dsimp := false) only [Prod.mk.injEq] at hx
    exact ⟨[], .nl none 0, .inl ⟨hx.1, rfl⟩⟩
  · simp [Value.cells] at hcs
    obtain ⟨rfl, rfl, rfl⟩ := hcs
    simp (implicitDefEqProofs := false) (dsimp := false) only [Prod.mk.injEq] at hx
    simp (implicitDefEqProofs := false) (dsimp := false) only [if_true] at hz
    exact ⟨zs.take len, ints_rel hl (by omega) (fun i hi => hc i (by omega)), .inr ⟨_, _, hx.1, by simp [lits]⟩⟩
theorem ints_len {ts : List TypeId} {ds : List (DataW H)} {j : Nat} {l : List Int} (h : (DataW.weightsEach Tryd.prog ts ds).all (· ≤ reachBytes) = true) (ht : ts[j]? = some 24) {d : DataW H} (hd : ds[j]? = some d)
    (hl : (d = .nil ∧ l = []) ∨ ∃ elems spare, d = .slice elems spare ∧ elems.length = l.length) : l.length < 2 ^ 44 := by
  rcases hl with ⟨_, rfl⟩ | ⟨elems, spare, rfl, e⟩
  · simp
  · have := sized_slice h ht hd tu28
    rw [tb3] at this
    have := reachBytes_lt
    omega
theorem arg_rows {v : Value} {d : DataW H} {p : List MemPlace} {r : Reach} {b0 : Nat} (hval : Value.okWide Tryd.prog W r b0 69 v) (h : DataW.Trod enc Tryd.prog W 0 (fun _ => true) held 69 v d p) :
    ∃ l : List (List Int), RelD W (Old W) (.l (l.map liD)) v ∧ ((d = .nil ∧ l = []) ∨ ∃ elems spare, d = .slice elems spare ∧ elems.length = l.length ∧ ∀ x ∈ l, x = [] ∨ ∃ es sp, DataW.slice es sp ∈ elems ∧ es.length = x.length) := by
  obtain ⟨a0, len, cap, rfl⟩ := okWide_slice tu44 hval
  obtain ⟨fuel, hf⟩ := h
  rcases open_int_rows tu44 tu28 tu3 tc28 tc3 hf with ⟨hcs, hx⟩ | ⟨a, len', cap', A, L, C, Z, hcs, _, hl, hm, hx, hr⟩
  · simp [Value.cells] at hcs
    obtain ⟨rfl, rfl, rfl⟩ := hcs
    simp (implicitDefEqProofs := false) (dsimp := false) only [Prod.mk.injEq] at hx
    exact ⟨[], .nl none 0, .inl ⟨hx.1, rfl⟩⟩
  · simp [Value.cells] at hcs
    obtain ⟨rfl, rfl, rfl⟩ := hcs
    simp (implicitDefEqProofs := false) (dsimp := false) only [Prod.mk.injEq] at hx
    have hrow : ∀ r, r < len → RelD W (Old W) (liD ((Z r).take (L r))) (.slice (A r) (L r) (C r)) := by
      intro r hlt
      obtain ⟨_, h1, h2, h3, _, h5, h6⟩ := hr r (by omega)
      cases hA : A r with
      | none =>
        have := h5 hA
        rw [show L r = 0 by omega, show C r = 0 by omega]
        exact .nl _ _
      | some a' => exact ints_rel h1 (by omega) fun i hi => (h6 a' hA).2 i (by omega)
    refine ⟨(List.range len).map fun r => (Z r).take (L r), ?_, .inr ⟨_, _, hx.1, by simp, fun x hx => ?_⟩⟩
    · by_cases h0 : len = 0
      · subst h0; exact .nl _ _
      have hxs : ∀ (i : Nat) (x : D), (((List.range len).map fun r => (Z r).take (L r)).map liD)[i]? = some x → i < len ∧ x = liD ((Z i).take (L i)) := by
        intro i x hx
        rw [List.getElem?_map, List.getElem?_map] at hx
        by_cases hi : i < len
        · rw [List.getElem?_range hi] at hx
          simp at hx
          exact ⟨hi, hx.symm⟩
        · rw [List.getElem?_eq_none (by simp; omega)] at hx; cases hx
      have hlen : len = (((List.range len).map fun r => (Z r).take (L r)).map liD).length := by simp
      have hrel := RelD.l (w := W) (N := Old W) (((List.range len).map fun r => (Z r).take (L r)).map liD) a cap 1 (fun i k => .slice (A i) (L i) (C i)) (by rw [← hlen]; exact hl) (old_cell (hr 0 (by omega)).1) ?_ ?_ ?_
      · rw [← hlen] at hrel
        exact hrel
      · intro i x hx
        obtain ⟨_, rfl⟩ := hxs i x hx
        rfl
      · intro i k x y hx hy
        obtain ⟨hi, rfl⟩ := hxs i x hx
        match k, hy with
        | 0, hy => rw [show i * 1 + 0 = i by omega]; exact (hr i (by omega)).1
      · intro i k x y hx hy
        obtain ⟨hi, rfl⟩ := hxs i x hx
        match k, hy with
        | 0, hy => cases hy; exact hrow i hi
    · obtain ⟨r, hr1, rfl⟩ := List.mem_map.1 hx
      have hlt := List.mem_range.1 hr1
      obtain ⟨_, h1, h2, h3, _, h5, h6⟩ := hr r (by omega)
      cases hA : A r with
      | none =>
        left
        have := h5 hA
        exact List.eq_nil_of_length_eq_zero (by simp (implicitDefEqProofs := false) (dsimp := false) only [List.length_take]; omega)
      | some a' =>
        right
        refine ⟨_, _, List.mem_map.2 ⟨r, hr1, by rw [hA]; rfl⟩, by simp [lits]⟩
theorem weights_all {P : Program} {e : TypeId} {d : DataW H} {n : Nat} (hn : n ∈ d.weights P e) : ∀ {l : List (DataW H)}, d ∈ l → n ∈ DataW.weightsAll P e l := by
  intro l
  induction l with
  | nil => intro h; cases h
  | cons x l ih =>
    intro h
    unfold DataW.weightsAll
    rcases List.mem_cons.1 h with rfl | h
    · exact List.mem_append_left _ hn
    · exact List.mem_append_right _ (ih h)
theorem rows_len {ts : List TypeId} {ds : List (DataW H)} {j : Nat} {l : List (List Int)} (h : (DataW.weightsEach Tryd.prog ts ds).all (· ≤ reachBytes) = true) (ht : ts[j]? = some 69) {d : DataW H} (hd : ds[j]? = some d)
    (hl : (d = .nil ∧ l = []) ∨ ∃ elems spare, d = .slice elems spare ∧ elems.length = l.length ∧ ∀ x ∈ l, x = [] ∨ ∃ es sp, DataW.slice es sp ∈ elems ∧ es.length = x.length) : l.length < 2 ^ 43 ∧ ∀ x ∈ l, x.length < 2 ^ 44 := by
  rcases hl with ⟨_, rfl⟩ | ⟨elems, spare, rfl, e, hr⟩
  · exact ⟨by simp, fun x hx => by cases hx⟩
  · have hb := reachBytes_lt
    refine ⟨?_, fun x hx => ?_⟩
    · have := sized_slice h ht hd tu44
      rw [tb28] at this
      omega
    · rcases hr x hx with rfl | ⟨es, sp, hm, e2⟩
      · simp
      · have h1 : (es.length + sp.length) * Tryd.prog.bytesOf 3 ∈ (DataW.slice es sp).weights Tryd.prog 24 := by
          simp [DataW.weights]
        have h2 : (es.length + sp.length) * Tryd.prog.bytesOf 3 ∈ (DataW.slice elems spare).weights Tryd.prog 69 := by
          have := weights_all h1 hm
          simp [DataW.weights, this]
        have := List.all_eq_true.1 h _ (DataW.weights_mem_each ht hd _ h2)
        rw [tb3] at this
        have : (es.length + sp.length) * 8 ≤ reachBytes := by simpa using this
        omega
end
end Go.Proofs

namespace Go.Proofs
open Go.Aw Go.ChangeShapes Go.WideShapes Go.ChangeAt Go.RowKit Go.Deep
set_option linter.unusedVariables false
set_option maxRecDepth 100000
abbrev LitT := Int × Bool
abbrev OrT := LitT × LitT
def orD (o : OrT) : D := .s [I .i64 o.1.1, Bo o.1.2, I .i64 o.2.1, Bo o.2.2]
theorem tu63 : Tryd.prog.underlying 45 = some (.slice 93) := by kernel_rfl
theorem tc70 : Tryd.prog.cellsOf 93 = 4 := by kernel_rfl
theorem tc68 : Tryd.prog.cellsOf 91 = 2 := by kernel_rfl
theorem tc4 : Tryd.prog.cellsOf 4 = 1 := by kernel_rfl
theorem tb70 : Tryd.prog.bytesOf 93 = 32 := by kernel_rfl
section
variable {H : Type} {enc : TypeId × Value → H} {W : World} {held : Bool}
theorem lit_cells {n : Nat} {cs : List Value} {y : DataW H × List MemPlace} (h : DataW.trod enc Tryd.prog W 0 (fun _ => true) held n 91 cs = some y) : ∃ q : LitT, cs = [.int .i64 q.1, .bool q.2] := by
  obtain ⟨y0, y1, m, _, hl, h0, h1⟩ := trod_struct2 Tryd.underlying91 h
  rw [tc68] at hl
  match cs, hl with
  | [c0, c1], _ =>
    simp [tc3, tc4] at h0 h1
    obtain ⟨x, e1, _, _⟩ := DataW.trod_int tu3 h0
    obtain ⟨b, e2, _⟩ := DataW.trod_bool tu4 h1
    simp (implicitDefEqProofs := false) (dsimp := false) only [List.cons.injEq, and_true] at e1 e2
    exact ⟨(x, b), by rw [e1, e2]⟩
theorem or_cells {n : Nat} {cs : List Value} {y : DataW H × List MemPlace} (h : DataW.trod enc Tryd.prog W 0 (fun _ => true) held n 93 cs = some y) : ∃ q : OrT, cs = [.int .i64 q.1.1, .bool q.1.2, .int .i64 q.2.1, .bool q.2.2] := by
  obtain ⟨y0, y1, m, _, hl, h0, h1⟩ := trod_struct2 Tryd.underlying93 h
  rw [tc70] at hl
  match cs, hl with
  | [c0, c1, c2, c3], _ =>
    simp [tc68] at h0 h1
    obtain ⟨a, ea⟩ := lit_cells h0
    obtain ⟨b, eb⟩ := lit_cells h1
    simp (implicitDefEqProofs := false) (dsimp := false) only [List.cons.injEq, and_true] at ea eb
    exact ⟨(a, b), by rw [ea.1, ea.2, eb.1, eb.2]⟩
theorem arg_ors {v : Value} {d : DataW H} {p : List MemPlace} {r : Reach} {b0 : Nat} (hval : Value.okWide Tryd.prog W r b0 45 v) (h : DataW.Trod enc Tryd.prog W 0 (fun _ => true) held 45 v d p) :
    ∃ l : List OrT, RelD W (Old W) (.l (l.map orD)) v ∧ ((d = .nil ∧ l = []) ∨ ∃ elems spare, d = .slice elems spare ∧ elems.length = l.length) := by
  obtain ⟨a0, len, cap, rfl⟩ := okWide_slice tu63 hval
  obtain ⟨fuel, hf⟩ := h
  rcases open_slice tu63 hf with ⟨hcs, hx⟩ | ⟨a, len', cap', m, n, D', Pl, hcs, _, hl, hm, hmm, hx, hc⟩
  · simp [Value.cells] at hcs
    obtain ⟨rfl, rfl, rfl⟩ := hcs
    simp (implicitDefEqProofs := false) (dsimp := false) only [Prod.mk.injEq] at hx
    exact ⟨[], .nl none 0, .inl ⟨hx.1, rfl⟩⟩
  · simp [Value.cells] at hcs
    obtain ⟨rfl, rfl, rfl⟩ := hcs
    simp (implicitDefEqProofs := false) (dsimp := false) only [Prod.mk.injEq] at hx
    simp (implicitDefEqProofs := false) (dsimp := false) only [if_true] at hmm
    subst hmm
    have hint : ∀ i, ∃ q : OrT, i < len → ∀ k, k < 4 → W.cell? (a.add (i * 4 + k)) = [Value.int .i64 q.1.1, .bool q.1.2, .int .i64 q.2.1, .bool q.2.2][k]? := by
      intro i
      by_cases hi : i < len
      · obtain ⟨cs', h1, h2⟩ := hc i (by omega)
        rw [tc70] at h1
        obtain ⟨_, hlen, hcell⟩ := World.cells?_some h1
        obtain ⟨q, rfl⟩ := or_cells h2
        refine ⟨q, fun _ k hk => ?_⟩
        have e := hcell k hk
        rw [add_add] at e
        exact e
      · exact ⟨((0, false), (0, false)), fun h => absurd h hi⟩
    obtain ⟨Q, hQ⟩ : ∃ Q : Nat → OrT, ∀ i, i < len → ∀ k, k < 4 → W.cell? (a.add (i * 4 + k)) = [Value.int .i64 (Q i).1.1, .bool (Q i).1.2, .int .i64 (Q i).2.1, .bool (Q i).2.2][k]? := ⟨fun i => Classical.choose (hint i), fun i => Classical.choose_spec (hint i)⟩
    refine ⟨(List.range len).map Q, ?_, .inr ⟨_, _, hx.1, by simp⟩⟩
    by_cases h0 : len = 0
    · subst h0; exact .nl _ _
    have hxs : ∀ (i : Nat) (x : D), (((List.range len).map Q).map orD)[i]? = some x → i < len ∧ x = orD (Q i) := by
      intro i x hx
      rw [List.getElem?_map, List.getElem?_map] at hx
      by_cases hi : i < len
      · rw [List.getElem?_range hi] at hx
        simp at hx
        exact ⟨hi, hx.symm⟩
      · rw [List.getElem?_eq_none (by simp; omega)] at hx; cases hx
    have hlen : len = (((List.range len).map Q).map orD).length := by simp
    have hrel := RelD.l (w := W) (N := Old W) (((List.range len).map Q).map orD) a _ 4 (fun i k => [Value.int .i64 (Q i).1.1, .bool (Q i).1.2, .int .i64 (Q i).2.1, .bool (Q i).2.2].getD k .nilIface) (by rw [← hlen]; exact hl) ?_ ?_ ?_ ?_
    · rw [← hlen] at hrel
      exact hrel
    · have := hQ 0 (by omega) 0 (by omega)
      exact old_cell (i := 0 * 4 + 0) this
    · intro i x hx
      obtain ⟨_, rfl⟩ := hxs i x hx
      rfl
    · intro i k x y hx hy
      obtain ⟨hi, rfl⟩ := hxs i x hx
      match k, hy with
      | 0, hy => exact hQ i hi 0 (by omega)
      | 1, hy => exact hQ i hi 1 (by omega)
      | 2, hy => exact hQ i hi 2 (by omega)
      | 3, hy => exact hQ i hi 3 (by omega)
    · intro i k x y hx hy
      obtain ⟨hi, rfl⟩ := hxs i x hx
      match k, hy with
      | 0, hy => cases hy; exact .c _
      | 1, hy => cases hy; exact .c _
      | 2, hy => cases hy; exact .c _
      | 3, hy => cases hy; exact .c _
theorem ors_len {ts : List TypeId} {ds : List (DataW H)} {j : Nat} {l : List OrT} (h : (DataW.weightsEach Tryd.prog ts ds).all (· ≤ reachBytes) = true) (ht : ts[j]? = some 45) {d : DataW H} (hd : ds[j]? = some d)
    (hl : (d = .nil ∧ l = []) ∨ ∃ elems spare, d = .slice elems spare ∧ elems.length = l.length) : l.length < 2 ^ 43 := by
  rcases hl with ⟨_, rfl⟩ | ⟨elems, spare, rfl, e⟩
  · simp
  · have := sized_slice h ht hd tu63
    rw [tb70] at this
    have := reachBytes_lt
    omega
end
end Go.Proofs

namespace Go.Proofs
open Go.Aw
set_option linter.unusedSimpArgs false
set_option maxRecDepth 10000
def orE (n : Int) (o : OrT) : Int := if (inB o.1.1 0 (n - 1) && inB o.2.1 0 (n - 1)) = false then 1 else 0
def ockE (n : Int) (l : List OrT) : Int := if inB n 1 4 = false then 1 else if 20 < l.length then 4 else firstE (orE n) l
theorem orD_cells (o : OrT) : (orD o).cells = [I .i64 o.1.1, Bo o.1.2, I .i64 o.2.1, Bo o.2.2] := rfl
theorem ocheck_spec (n : Int) (l : List OrT) (hpre : l.length < 2 ^ 62) : FnD Tryd.prog 45 [I .i64 n, .l (l.map orD)] (erD (ockE n l)) := by
  refine FnD.go Tryd.func45 rfl rfl Tryd.results45 Tryd.ntmps45 ?_
  simp (implicitDefEqProofs := false) (dsimp := false) only [↓aw_seq, ↓aw_reg, ↓Qseq_n, ↓ops_nil, ↓ops_cons, ↓eval_tmp, ↓eval_int, ↓eval_func, ↓put_some, ↓op_move, ↓op_assign, ↓op_call, isD_d, ↓fnK_f, ↓call_H, ↓callK_H, ↓allT_nil, ↓allT_cons, ↓td_d, List.getD_cons_zero, List.getD_cons_succ, List.set_cons_zero, List.set_cons_succ, List.cons_append, List.nil_append, List.append_nil, List.map_cons, List.map_nil, List.length_cons, List.length_nil, List.all_cons, List.all_nil, Bool.and_self, Nat.reduceAdd, Nat.reduceSub, Nat.reduceMul, Nat.zero_add, List.replicate, evK_go, reduceIte, Nat.reduceEqDiff, Nat.reduceLT, and_self, Int.zero_add]
  simp (implicitDefEqProofs := false) (dsimp := false) only [within_call, eval_nilI, ↓cdK_not, ↓aw_cond, ↓Qseq_n, ↓ops_nil, ↓ops_cons, ↓eval_tmp, ↓put_some, ↓bK_b, ↓op_not, List.getD_cons_zero, List.getD_cons_succ, List.set_cons_zero, List.set_cons_succ, Bool.true_and, Bool.true_or, Nat.reduceAdd, Nat.reduceSub, Nat.reduceMul, evK_go, reduceIte, Nat.reduceEqDiff, Nat.reduceLT, true_and]
  refine OrH.l (OrH.l (cdK_split (fun hA => ?_) (fun hA => ?_)))
  rotate_left
  · have e : ockE n l = 1 := if_pos hA
    simp (implicitDefEqProofs := false) (dsimp := false) only [e, ↓aw_seq, ↓aw_ret, ↓aw_reg, ↓Qseq_n, ↓Qseq_r, ↓Qret_r, ↓ops_nil, ↓ops_cons, ↓eval_tmp, ↓eval_int, ↓put_some, ↓vK_c, ↓op_assign, ↓op_iface, ↓td_d, ↓ret_1, ↓nc108, List.getD_cons_zero, List.getD_cons_succ, List.set_cons_zero, List.set_cons_succ, Bool.true_and, Nat.reduceAdd, Nat.reduceSub, Nat.reduceMul, evK_go, reduceIte, Nat.reduceEqDiff, Nat.reduceLT, true_and]
    rfl
  have e1 : ockE n l = if 20 < l.length then 4 else firstE (orE n) l := if_neg (by rw [hA]; decide)
  have hn : 1 ≤ n ∧ n ≤ 4 := by simpa [inB] using hA
  simp (implicitDefEqProofs := false) (dsimp := false) only [↓aw_cond, ↓aw_seq, ↓aw_skip, ↓aw_reg, ↓Qseq_n, ↓ops_nil, ↓ops_cons, ↓eval_tmp, ↓eval_int, ↓put_some, ↓bK_b, ↓lenK_l, ↓binE_i, ↓bi_gtr, ↓op_move, ↓op_bin, ↓op_len, ↓sl45, List.getD_cons_zero, List.getD_cons_succ, List.set_cons_zero, List.set_cons_succ, List.length_map, Nat.reduceAdd, Nat.reduceSub, Nat.reduceMul, evK_go, reduceIte, Nat.reduceEqDiff, Nat.reduceLT]
  refine cdK_dec (fun h2 => ?_) (fun h2 => ?_)
  · have e : ockE n l = 4 := by rw [e1, if_pos (by omega)]
    simp (implicitDefEqProofs := false) (dsimp := false) only [e, ↓aw_seq, ↓aw_ret, ↓aw_reg, ↓Qseq_n, ↓Qseq_r, ↓Qret_r, ↓ops_nil, ↓ops_cons, ↓eval_tmp, ↓eval_int, ↓put_some, ↓vK_c, ↓op_assign, ↓op_iface, ↓td_d, ↓ret_1, ↓nc108, List.getD_cons_zero, List.getD_cons_succ, List.set_cons_zero, List.set_cons_succ, Bool.true_and, Nat.reduceAdd, Nat.reduceSub, Nat.reduceMul, evK_go, reduceIte, Nat.reduceEqDiff, Nat.reduceLT, true_and]
    rfl
  rw [if_neg (by omega)] at e1
  simp (implicitDefEqProofs := false) (dsimp := false) only [↓aw_seq, ↓aw_block, ↓aw_skip, ↓aw_loop, ↓aw_reg, ↓Qseq_n, ↓ops_nil, ↓ops_cons, ↓eval_tmp, ↓eval_int, ↓put_some, ↓lenK_l, ↓op_move, ↓op_len, ↓sl45, List.getD_cons_zero, List.getD_cons_succ, List.set_cons_zero, List.set_cons_succ, List.length_map, Nat.reduceAdd, Nat.reduceSub, Nat.reduceMul, evK_go, reduceIte, Nat.reduceEqDiff, Nat.reduceLT]
  refine loopW (fun k : Nat => { tm := slots 34 [(0, .d (I .i64 n)), (15, .d (.l (l.map orD))), (16, .d (I .i64 l.length)), (17, .d (I .i64 k))], bx := [], rw := [] })
    (fun k => k ≤ l.length ∧ firstE (orE n) (l.take k) = 0) (fun k => l.length - k) 0 ⟨by simp, by simp [firstE]⟩ ?_ ?_
  · refine Wkn.of [] [] ?_; simp (implicitDefEqProofs := false) (dsimp := false) only [List.set_cons_zero, List.set_cons_succ, Bool.and_self, Nat.reduceAdd, Nat.reduceSub, Nat.reduceMul, List.replicate, evK_go, reduceIte, Nat.reduceEqDiff, Nat.reduceLT, and_self, List.foldl_cons, List.foldl_nil, Int.cast_ofNat_Int, slots, wkL_nil, wkL_cons, wkB_nil, wkR_nil, wkV_j, wkV_d, frz_d, reduceCtorEq]
  · rintro k ⟨hk, h0⟩
    simp (implicitDefEqProofs := false) (dsimp := false) only [slots, ↓aw_cond, ↓aw_seq, ↓aw_reg, ↓Qseq_n, ↓ops_nil, ↓ops_cons, ↓eval_tmp, ↓put_some, ↓bK_b, ↓binE_i, ↓bi_lss, ↓op_bin, List.getD_cons_zero, List.getD_cons_succ, List.set_cons_zero, List.set_cons_succ, Nat.reduceAdd, Nat.reduceSub, Nat.reduceMul, List.replicate, evK_go, reduceIte, Nat.reduceEqDiff, Nat.reduceLT, List.foldl_cons, List.foldl_nil, Int.ofNat_lt]
    refine cdK_dec (fun h => ?_) (fun h => ?_)
    · obtain ⟨g1, g2⟩ := firstE_take (orE n) h h0
      simp (implicitDefEqProofs := false) (dsimp := false) only [h, orD, all2_call, ↓cdK_not, ↓atK_H, ↓atH_map, ↓nthK_H, ↓nthH_zero, ↓nthH_succ, ↓aw_cond, ↓aw_seq, ↓aw_block, ↓aw_skip, ↓aw_reg, ↓Qseq_n, ↓ops_nil, ↓ops_cons, ↓eval_tmp, ↓eval_int, ↓eval_func, ↓put_some, ↓put_none, ↓bK_b, ↓iK_i, ↓dK_d, ↓binE_i, ↓bi_sub, ↓in_i64, ↓ldK_q, ↓ldK_p, ↓faK_p, ↓iaK_l, ↓op_move, ↓op_load, ↓op_bin, ↓op_not, ↓op_fa, ↓op_ia, ↓op_call, ↓op_alloc, ↓op_store, isD_d, ↓fnK_f, ↓call_H, ↓callK_H, ↓allT_nil, ↓allT_cons, ↓allD_nil, ↓allD_cons, ↓td_d, ↓addBox_mk, ↓setBox_mk, ↓st_bx, ↓cells_c, ↓cells_s, ↓vcells_s, ↓one_i, ↓one_b, ↓vone_d, constV_a, ↓st_p, ↓bs_, ↓op_bs, ↓bsL_f, ↓stored_mk, ↓sl_nil, ↓sl_cons, ↓sT_move, ↓sT_load, ↓sT_bin, ↓sT_un, ↓sT_fa, ↓sT_bs, ↓sT_call, ↓vsz_int, ↓inO_2, ↓fm_nil, ↓fm_cons, ↓ty3, ↓zb3, ↓sl24, ↓sl45, ↓fd91_0, ↓ty93, ↓zb93, ↓fd93_0, ↓fd93_1, List.getD_cons_zero, List.getD_cons_succ, List.set_cons_zero, List.set_cons_succ, List.nil_append, List.append_nil, List.map_cons, List.map_nil, List.length_cons, List.length_nil, List.all_cons, List.all_nil, Bool.true_and, Bool.and_self, Bool.true_or, Bool.or_false, Nat.reduceAdd, Nat.reduceSub, Nat.reduceMul, Nat.zero_add, Nat.add_zero, Int.toNat_natCast, evK_go, reduceIte, decide_true, Nat.reduceEqDiff, Nat.reduceLT, and_self, true_and, Int.zero_add, List.take_succ_cons, List.take_nil, Int.natCast_nonneg]
      refine ⟨by decide, by decide, by omega, ?_⟩
      (repeat refine OrH.l ?_)
      refine cdK_split (fun hb => ?_) (fun hb => ?_)
      · have e : orE n (l.getD k default) = 0 := if_neg (by rw [hb]; decide)
        simp (implicitDefEqProofs := false) (dsimp := false) only [↓aw_skip, ↓aw_reg, ↓Qseq_n, ↓Qblk_n, ↓ops_nil, ↓ops_cons, ↓eval_tmp, ↓eval_int, ↓put_some, ↓binE_i, ↓bi_add, ↓in_i64, ↓op_move, ↓op_bin, List.getD_cons_zero, List.getD_cons_succ, List.set_cons_zero, List.set_cons_succ, Nat.reduceAdd, Nat.reduceSub, Nat.reduceMul, evK_go, reduceIte, Nat.reduceEqDiff, Nat.reduceLT]
        refine ⟨by omega, k + 1, ⟨by omega, g1 e⟩, by omega, ?_⟩
        refine Wkn.of [] [] ?_; simp (implicitDefEqProofs := false) (dsimp := false) only [List.set_cons_zero, List.set_cons_succ, Bool.and_self, Nat.reduceAdd, Nat.reduceSub, Nat.reduceMul, List.replicate, evK_go, reduceIte, Nat.reduceEqDiff, Nat.reduceLT, and_self, List.foldl_cons, List.foldl_nil, Int.cast_ofNat_Int, Int.natCast_add, slots, wkL_nil, wkL_cons, wkB_nil, wkR_nil, wkV_j, wkV_d, frz_d, reduceCtorEq]
      · have e : orE n (l.getD k default) = 1 := if_pos hb
        have e2 := g2 (by rw [e]; decide)
        rw [e1, e2, e]
        simp (implicitDefEqProofs := false) (dsimp := false) only [↓aw_seq, ↓aw_ret, ↓aw_reg, ↓Qseq_n, ↓Qseq_r, ↓Qblk_r, ↓Qret_r, ↓ops_nil, ↓ops_cons, ↓eval_tmp, ↓eval_int, ↓put_some, ↓vK_c, ↓op_assign, ↓op_iface, ↓td_d, ↓ret_1, ↓nc108, List.getD_cons_zero, List.getD_cons_succ, List.set_cons_zero, List.set_cons_succ, Bool.true_and, Nat.reduceAdd, Nat.reduceSub, Nat.reduceMul, evK_go, reduceIte, Nat.reduceEqDiff, Nat.reduceLT, true_and]
        rfl
    · obtain rfl : k = l.length := by omega
      rw [List.take_length] at h0
      rw [e1, h0]
      simp (implicitDefEqProofs := false) (dsimp := false) only [eval_nilI, ↓aw_seq, ↓aw_exit, ↓aw_ret, ↓aw_reg, ↓Qseq_n, ↓Qseq_x, ↓Qblk_x, ↓Qret_r, ↓ops_nil, ↓ops_cons, ↓eval_tmp, ↓put_some, ↓op_assign, ↓td_d, ↓ret_1, List.getD_cons_zero, List.getD_cons_succ, List.set_cons_zero, List.set_cons_succ, Nat.reduceAdd, Nat.reduceSub, Nat.reduceMul, evK_go, reduceIte, decide_false, Nat.reduceEqDiff, Nat.reduceLT, Nat.lt_irrefl]
      rfl
theorem ocheck_call (n : Int) (l : List OrT) (pure : Bool) (σ : St) (dst : Option Tmp) (K : St → Prop) : CallH Tryd.prog 45 [I .i64 n, .l (l.map orD)] pure σ dst (.mk : Hid K) = OrH ((l.length < 2 ^ 62) ∧ (pure || D.flat (erD (ockE n l))) = true ∧ evK (σ.put dst (.d (erD (ockE n l)))) (.mk : Hid K)) (.mk : Hid (CallH Tryd.prog 45 [I .i64 n, .l (l.map orD)] pure σ dst (.mk : Hid K))) := CallH.eq (ocheck_spec n l) pure σ dst K
theorem ocheck_callQ (n : Int) (l : List OrT) (pure : Bool) (C : V → Prop) : CallQ Tryd.prog 45 [I .i64 n, .l (l.map orD)] pure (.mk : Hid C) = OrH ((l.length < 2 ^ 62) ∧ (pure || D.flat (erD (ockE n l))) = true ∧ evK (V.d (erD (ockE n l))) (.mk : Hid C)) (.mk : Hid (CallQ Tryd.prog 45 [I .i64 n, .l (l.map orD)] pure (.mk : Hid C))) := CallQ.eq (ocheck_spec n l) pure C
end Go.Proofs
