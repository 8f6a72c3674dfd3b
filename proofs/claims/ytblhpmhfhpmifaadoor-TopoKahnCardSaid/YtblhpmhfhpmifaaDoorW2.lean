/- Part W 2 of what the proof of TopoKahn stands on: what the functions of the program compute. -/
import Derived.Test.YtblhpmhfhpmifaaDoorW1
import Derived.ChangeSlices
set_option linter.unusedVariables false
set_option linter.unusedSimpArgs false
namespace Go.Proofs
open Go.Aw
set_option linter.unusedSimpArgs false
set_option maxRecDepth 10000
end Go.Proofs

namespace Go.Proofs
open Go.Aw
set_option linter.unusedSimpArgs false
set_option maxRecDepth 10000
end Go.Proofs

namespace Go.Proofs
open Go.Aw
set_option linter.unusedSimpArgs false
set_option maxRecDepth 10000
def firstE {α : Type} (f : α → Int) : List α → Int
  | [] => 0
  | x :: l => if f x = 0 then firstE f l else f x
def rowE (n : Nat) (x : List Int) : Int := if x.length ≠ n then 3 else if (x.all fun y => inB y 0 ((n : Int) - 1)) = false then 1 else if x.Nodup then 0 else 6
def stE (L R : List (List Int)) : Int := if 6 < L.length ∨ 6 < R.length then 4 else if L.length ≠ R.length then 3 else if firstE (rowE L.length) L = 0 then firstE (rowE L.length) R else firstE (rowE L.length) L
end Go.Proofs

namespace Go.Proofs
open Go.Aw
set_option linter.unusedSimpArgs false
set_option maxRecDepth 10000
theorem nDI (s : List Nat) : s.map nD = (s.map Int.ofNat).map (I .i64) := by rw [List.map_map]; rfl
def lnR (x : List Nat) : D := .l (x.map nD)
def toN (L : List (List Int)) : List (List Nat) := L.map fun x => x.map Int.toNat
structure StOk (L R : List (List Int)) (n : Nat) (A B : List (List Nat)) : Prop where
  hi : n ≤ 6
  lenL : L.length = n
  lenR : R.length = n
  dL : L.map liD = A.map lnR
  dR : R.map liD = B.map lnR
  pL : Prefs n A
  pR : Prefs n B
theorem place_nat (l : List Nat) (n : Nat) : place (l.map Int.ofNat) (n : Int) = if n ∈ l then ((l.idxOf n : Nat) : Int) else -1 := by
  unfold place
  have hm : ((n : Int) ∈ l.map Int.ofNat) ↔ n ∈ l := by
    rw [List.mem_map]
    exact ⟨fun ⟨x, hx, e⟩ => (Int.ofNat.inj e) ▸ hx, fun h => ⟨n, h, rfl⟩⟩
  by_cases h : n ∈ l
  · rw [if_pos (hm.2 h), if_pos h]
    congr 1
    clear hm h
    induction l with
    | nil => rfl
    | cons x l ih =>
      rw [List.map_cons, List.idxOf_cons, List.idxOf_cons]
      by_cases e : x = n
      · subst e; simp
      · have e2 : ¬ (Int.ofNat x = (n : Int)) := fun h => e (Int.ofNat.inj h)
        have : (x == n) = false := by simpa using e
        have h2 : (Int.ofNat x == (n : Int)) = false := by simpa using e2
        rw [this, h2]
        simp (implicitDefEqProofs := false) (dsimp := false) only [cond_false]
        rw [ih]
  · rw [if_neg (fun h' => h (hm.1 h')), if_neg h]
def isE (L R : List (List Int)) (h : List Int) : Int := if stE L R = 0 then rowE L.length h else stE L R
def stbI (A B : List (List Nat)) (H : List Nat) (i : Nat) : Bool := ((A.getD i default).take ((A.getD i default).idxOf (H.getD i default))).all fun b => !decide ((B.getD b default).idxOf i < (B.getD b default).idxOf (H.idxOf b))
def stbL (A B : List (List Nat)) (H : List Nat) : Bool := (List.range H.length).all (stbI A B H)
def isB (L R : List (List Int)) (h : List Int) : Bool := if isE L R h = 0 then stbL (toN L) (toN R) (h.map Int.toNat) else false
end Go.Proofs

namespace Go.Proofs
open Go.Aw
set_option linter.unusedSimpArgs false
set_option maxRecDepth 10000
def tvA : Nat → V → V
  | 0, _ => .j
  | _, x => x
def tvB : Nat → V → V
  | 0, _ => .j
  | 1, _ => .j
  | _, x => x
def tvC : Nat → V → V
  | 3, x => x
  | _, _ => .j
def rv : Nat → Nat → List D
  | 2, n => List.replicate n (I .i64 0)
  | _, _ => []
def S3 (A B : List (List Nat)) (n c1 c2 c3 t : Nat) : St := { tm := slots 109 [(0, .d (.l (A.map lnR))), (1, .d (.l (B.map lnR))), (7, .d (I .i64 (n : Int))), (8, tvA t (.o 0 0 n)), (9, tvB t (.o 1 0 n)), (10, tvC t (.o 2 0 n)), (26, tvA c1 (.d (I .i64 (n : Int)))), (27, tvB c1 (.o 0 0 n)), (28, tvA c2 (.d (I .i64 (n : Int)))), (29, tvB c2 (.o 1 0 n)), (30, tvA c3 (.d (I .i64 (n : Int)))), (31, tvB c3 (.o 2 0 n))], bx := [], rw := [some ⟨1, rv c1 n⟩, some ⟨1, rv c2 n⟩, some ⟨1, rv c3 n⟩] }
section
variable (p : List Nat) (rw : List (Option Row)) (c o l : Nat)
end
end Go.Proofs

namespace Go.Proofs
open Go.Aw
set_option linter.unusedSimpArgs false
set_option maxRecDepth 10000
def oD (m : Nat) (L : List (Nat × Nat)) (f : Nat) (P : List Nat) : List Nat := (List.range m).map fun i => if i ∈ P then ovS m L f i else 0
def ovP (m : Nat) (L : List (Nat × Nat)) (f c k : Nat) : Nat := addAll 0 ((List.range k).filter (ovC m L f c))
/-- What is wrong with lines and a point. -/
def domE (n : Int) (l : List (Int × Int)) (f : Int) : Int := if chk n l = 0 then (if inB f 0 (n - 1) then 0 else 1) else chk n l
def domOf (n : Int) (l : List (Int × Int)) (f : Int) : List (List Int) := if domE n l f = 0 then (ovL n.toNat (natL l) f.toNat).map ptsI else []
def domLast (n : Int) (l : List (Int × Int)) (f : Int) : List Int := if domE n l f = 0 then lastL n.toNat (ovL n.toNat (natL l) f.toNat) else []
end Go.Proofs

namespace Go.Proofs
open Go.Aw
set_option linter.unusedSimpArgs false
set_option maxRecDepth 10000
def lastB (m : Nat) (W : List Nat) (k : Nat) : List Int := (List.range m).map fun i => if i < k then lastI W i else 0
end Go.Proofs

namespace Go.Proofs
open Go.Aw
set_option linter.unusedSimpArgs false
set_option maxRecDepth 10000
end Go.Proofs

namespace Go.Proofs
open Go.Aw
set_option linter.unusedSimpArgs false
set_option maxRecDepth 10000
def rootR (n : Int) (l : List (Int × Int)) : List Nat := if chk n l = 0 then (List.range n.toNat).map (rootP n.toNat (natL l)) else []
def farR (n : Int) (l : List (Int × Int)) (f : Int) : List Int := if chk n l = 0 then (if inB f 0 (n - 1) = true then farL n.toNat (natL l) f.toNat else []) else []
def farE (n : Int) (l : List (Int × Int)) (f : Int) : Int := if chk n l = 0 then (if inB f 0 (n - 1) = true then 0 else 1) else chk n l
def negK (n k : Nat) : List Int := List.replicate k (-1) ++ List.replicate (n - k) 0
theorem inW_iff {x lo hi : Int} : inB x lo hi = true ↔ lo ≤ x ∧ x ≤ hi := by simp [inB]
structure FI where
  q : Nat
  pre : List Nat
  st : BS
end Go.Proofs

namespace Go.Proofs
open Go.Aw
set_option linter.unusedSimpArgs false
set_option maxRecDepth 10000
set_option maxHeartbeats 2000000
structure PI where
  m : Nat
  pre : List Nat
  g : GS
def outK (has : List Int) (n k : Nat) : List Nat := (List.range k).foldl (fun o j => o.set (has.getD j default).toNat j) (List.replicate n 0)
def pairsR (L R : List (List Int)) : List Nat := if stE L R = 0 then gale L.length (toN L) (toN R) else []
end Go.Proofs

namespace Go.Proofs
open Go.Aw Go.ChangeShapes Go.WideShapes Go.ChangeAt Go.RowKit Go.Deep
set_option linter.unusedVariables false
set_option maxRecDepth 100000
section
variable {H : Type} {enc : TypeId × Value → H} {W : World} {held : Bool}
end
end Go.Proofs

namespace Go.Proofs
open Go.Aw
set_option linter.unusedSimpArgs false
set_option maxRecDepth 10000
def sgL : List (List Int) := [[0, 1], [0, 1]]
def sgR : List (List Int) := [[1, 0], [0, 1]]
end Go.Proofs

namespace Go.Proofs
open Go.Aw
set_option linter.unusedSimpArgs false
set_option maxRecDepth 10000
end Go.Proofs

namespace Go.Proofs
open Go.Aw
set_option linter.unusedSimpArgs false
set_option maxRecDepth 10000
theorem rplace_spec (l : List Int) (n : Int) (hpre : l.length < 2 ^ 62) : FnD Tryd.prog 31 [.l (l.map (I .i64)), I .i64 n] (I .i64 (place l n)) := by
  refine FnD.go Tryd.func31 rfl rfl Tryd.results31 Tryd.ntmps31 ?_
  simp (implicitDefEqProofs := false) (dsimp := false) only [↓aw_seq, ↓aw_block, ↓aw_loop, ↓aw_reg, ↓Qseq_n, ↓ops_nil, ↓ops_cons, ↓eval_int, ↓put_some, ↓op_assign, List.set_cons_zero, List.set_cons_succ, List.cons_append, List.nil_append, List.map_cons, List.map_nil, List.length_cons, List.length_nil, Nat.reduceAdd, Nat.reduceSub, Nat.reduceMul, Nat.zero_add, List.replicate, evK_go, reduceIte, Nat.reduceEqDiff, Nat.reduceLT, Int.zero_add]
  refine loopW (fun k : Nat => { tm := slots 19 [(0, .d (.l (l.map (I .i64)))), (1, .d (I .i64 n)), (5, .d (I .i64 k))], bx := [], rw := [] })
    (fun k => k ≤ l.length ∧ n ∉ l.take k) (fun k => l.length - k) 0 ⟨by simp, by simp⟩ ?_ ?_
  · refine Wkn.of [] [] ?_
    simp (implicitDefEqProofs := false) (dsimp := false) only [List.set_cons_zero, List.set_cons_succ, Bool.and_self, Nat.reduceAdd, Nat.reduceSub, Nat.reduceMul, List.replicate, evK_go, reduceIte, Nat.reduceEqDiff, Nat.reduceLT, and_self, List.foldl_cons, List.foldl_nil, Int.cast_ofNat_Int, slots, wkL_nil, wkL_cons, wkB_nil, wkR_nil, wkV_j, wkV_d, frz_d, reduceCtorEq]
  · rintro k ⟨h1, h2⟩
    simp (implicitDefEqProofs := false) (dsimp := false) only [slots, ↓aw_cond, ↓aw_seq, ↓aw_reg, ↓Qseq_n, ↓ops_nil, ↓ops_cons, ↓eval_tmp, ↓put_some, ↓bK_b, ↓lenK_l, ↓binE_i, ↓bi_lss, ↓op_move, ↓op_bin, ↓op_len, ↓sl24, List.getD_cons_zero, List.getD_cons_succ, List.set_cons_zero, List.set_cons_succ, List.length_map, Nat.reduceAdd, Nat.reduceSub, Nat.reduceMul, List.replicate, evK_go, reduceIte, Nat.reduceEqDiff, Nat.reduceLT, List.foldl_cons, List.foldl_nil, Int.ofNat_lt]
    refine cdK_dec (fun h => ?_) (fun h => ?_)
    · have hk : k < l.length := by omega
      simp (implicitDefEqProofs := false) (dsimp := false) only [hk, ↓atK_H, ↓atH_map, ↓aw_cond, ↓aw_seq, ↓aw_block, ↓aw_skip, ↓aw_reg, ↓Qseq_n, ↓ops_nil, ↓ops_cons, ↓eval_tmp, ↓put_some, ↓bK_b, ↓iK_i, ↓binE_i, ↓bi_eql, ↓ldK_q, ↓iaK_l, ↓op_move, ↓op_load, ↓op_bin, ↓op_ia, ↓cells_c, ↓hd_cons, ↓ty3, ↓sl24, List.getD_cons_zero, List.getD_cons_succ, List.set_cons_zero, List.set_cons_succ, List.length_cons, List.length_nil, Bool.true_and, Nat.reduceAdd, Nat.reduceSub, Nat.reduceMul, Nat.zero_add, Int.toNat_natCast, evK_go, reduceIte, decide_true, Nat.reduceEqDiff, Nat.reduceLT, true_and, Int.zero_add, Int.natCast_nonneg]
      refine cdK_dec (fun hb => ?_) (fun hb => ?_)
      · have := place_at hk h2 hb
        simp (implicitDefEqProofs := false) (dsimp := false) only [this, ↓aw_seq, ↓aw_ret, ↓aw_reg, ↓Qseq_n, ↓Qseq_r, ↓Qblk_r, ↓Qret_r, ↓ops_nil, ↓ops_cons, ↓eval_tmp, ↓put_some, ↓op_move, ↓op_assign, ↓td_d, ↓ret_1, List.getD_cons_zero, List.getD_cons_succ, List.set_cons_zero, List.set_cons_succ, Nat.reduceAdd, Nat.reduceSub, Nat.reduceMul, evK_go, reduceIte, Nat.reduceEqDiff, Nat.reduceLT]
      · simp (implicitDefEqProofs := false) (dsimp := false) only [↓aw_skip, ↓aw_reg, ↓Qseq_n, ↓Qblk_n, ↓ops_nil, ↓ops_cons, ↓eval_tmp, ↓eval_int, ↓put_some, ↓binE_i, ↓bi_add, ↓in_i64, ↓op_move, ↓op_assign, ↓op_bin, List.getD_cons_zero, List.getD_cons_succ, List.set_cons_zero, List.set_cons_succ, Nat.reduceAdd, Nat.reduceSub, Nat.reduceMul, evK_go, reduceIte, Nat.reduceEqDiff, Nat.reduceLT]
        refine ⟨by omega, k + 1, ⟨by omega, ?_⟩, by omega, ?_⟩
        · rw [take_succ_getD hk, List.mem_append, List.mem_singleton]
          exact fun h' => h'.elim h2 (fun e => hb e.symm)
        · refine Wkn.of [] [] ?_
          simp (implicitDefEqProofs := false) (dsimp := false) only [List.set_cons_zero, List.set_cons_succ, Bool.and_self, Nat.reduceAdd, Nat.reduceSub, Nat.reduceMul, List.replicate, evK_go, reduceIte, Nat.reduceEqDiff, Nat.reduceLT, and_self, List.foldl_cons, List.foldl_nil, Int.cast_ofNat_Int, Int.natCast_add, slots, wkL_nil, wkL_cons, wkB_nil, wkR_nil, wkV_j, wkV_d, frz_d, reduceCtorEq]
    · obtain rfl : k = l.length := by omega
      rw [List.take_length] at h2
      have : place l n = -1 := if_neg h2
      simp (implicitDefEqProofs := false) (dsimp := false) only [this, ↓aw_seq, ↓aw_exit, ↓aw_ret, ↓aw_reg, ↓Qseq_n, ↓Qseq_x, ↓Qblk_x, ↓Qret_r, ↓ops_nil, ↓ops_cons, ↓eval_tmp, ↓eval_int, ↓put_some, ↓op_assign, ↓td_d, ↓ret_1, List.getD_cons_zero, List.getD_cons_succ, List.set_cons_zero, List.set_cons_succ, Nat.reduceAdd, Nat.reduceSub, Nat.reduceMul, evK_go, reduceIte, decide_false, Nat.reduceEqDiff, Nat.reduceLT, Nat.lt_irrefl]
theorem rplaceN_spec (l : List Nat) (n : Nat) (hpre : l.length < 2 ^ 62 ∧ n ∈ l) : FnD Tryd.prog 31 [.l (l.map nD), I .i64 (n : Int)] (I .i64 (l.idxOf n : Nat)) := by
  have h := rplace_spec (l.map Int.ofNat) n (by simpa using hpre.1)
  rw [place_nat, if_pos hpre.2, ← nDI] at h
  exact h
theorem rplaceN_callQ (l : List Nat) (n : Nat) (pure : Bool) (C : V → Prop) : CallQ Tryd.prog 31 [.l (l.map nD), I .i64 (n : Int)] pure (.mk : Hid C) = OrH ((l.length < 2 ^ 62 ∧ n ∈ l) ∧ (pure || D.flat (I .i64 (l.idxOf n : Nat))) = true ∧ evK (V.d (I .i64 (l.idxOf n : Nat))) (.mk : Hid C)) (.mk : Hid (CallQ Tryd.prog 31 [.l (l.map nD), I .i64 (n : Int)] pure (.mk : Hid C))) := CallQ.eq (rplaceN_spec l n) pure C
theorem rallN_spec (l : List Nat) (low high : Int) (hpre : l.length < 2 ^ 62) : FnD Tryd.prog 29 [.l (l.map nD), I .i64 low, I .i64 high] (Bo ((l.map Int.ofNat).all fun x => inB x low high)) := by
  have h := allR_spec (l.map Int.ofNat) low high (by simpa using hpre)
  rw [← nDI] at h
  exact h
theorem rallN_call (l : List Nat) (low high : Int) (pure : Bool) (σ : St) (dst : Option Tmp) (K : St → Prop) : CallH Tryd.prog 29 [.l (l.map nD), I .i64 low, I .i64 high] pure σ dst (.mk : Hid K) = OrH ((l.length < 2 ^ 62) ∧ (pure || D.flat (Bo ((l.map Int.ofNat).all fun x => inB x low high))) = true ∧ evK (σ.put dst (.d (Bo ((l.map Int.ofNat).all fun x => inB x low high)))) (.mk : Hid K)) (.mk : Hid (CallH Tryd.prog 29 [.l (l.map nD), I .i64 low, I .i64 high] pure σ dst (.mk : Hid K))) := CallH.eq (rallN_spec l low high) pure σ dst K
theorem rtwiceN_spec (l : List Nat) (hpre : l.length < 2 ^ 62) : FnD Tryd.prog 30 [.l (l.map nD)] (Bo (twice (l.map Int.ofNat))) := by
  have h := twice_spec (l.map Int.ofNat) (by simpa using hpre)
  rw [← nDI] at h
  exact h
theorem rtwiceN_call (l : List Nat) (pure : Bool) (σ : St) (dst : Option Tmp) (K : St → Prop) : CallH Tryd.prog 30 [.l (l.map nD)] pure σ dst (.mk : Hid K) = OrH ((l.length < 2 ^ 62) ∧ (pure || D.flat (Bo (twice (l.map Int.ofNat)))) = true ∧ evK (σ.put dst (.d (Bo (twice (l.map Int.ofNat))))) (.mk : Hid K)) (.mk : Hid (CallH Tryd.prog 30 [.l (l.map nD)] pure σ dst (.mk : Hid K))) := CallH.eq (rtwiceN_spec l) pure σ dst K
end Go.Proofs

namespace Go.Proofs
open Go.Aw
set_option linter.unusedSimpArgs false
set_option maxRecDepth 10000
set_option maxHeartbeats 1000000
end Go.Proofs

namespace Go.Proofs
open Go.Aw
set_option linter.unusedSimpArgs false
set_option maxRecDepth 10000
set_option maxHeartbeats 2000000
theorem ti_full {m : Nat} {L : List (Nat × Nat)} {o : List Nat} (h : TI m L 0 o) : FullR m o := by
  have hlt : ∀ y ∈ o, y < m := fun y hy => (h.out y hy).1
  refine ⟨?_, h.nodup, hlt⟩
  have h1 := pig (M := List.range m) h.nodup (fun x hx => List.mem_range.2 (hlt x hx))
  have h2 := pig (M := o) (List.nodup_range (n := m)) (fun x hx => (h.all x (List.mem_range.1 hx)).resolve_left (by simp))
  rw [List.length_range] at h1 h2
  omega
theorem ti_idx {m : Nat} {L : List (Nat × Nat)} {o : List Nat} (h : TI m L 0 o) (hg : Good m L) {a b : Nat} (hab : (a, b) ∈ L) : o.idxOf a ≤ o.idxOf b := by
  have hb : b ∈ o := (h.all b (hg _ hab).2).resolve_left (by simp)
  obtain ⟨s, t, e⟩ := List.append_of_mem hb
  have hnd := h.nodup
  rw [e] at hnd
  have hbs : b ∉ s := fun hm => (List.nodup_append.1 hnd).2.2 b hm b (by simp) rfl
  have ha := h.fwd a b hab s t e
  rw [e, List.idxOf_append, List.idxOf_append, if_pos ha, if_neg hbs]
  have := List.idxOf_lt_length_of_mem ha
  omega
theorem goes_nat {n : Int} {l : List (Int × Int)} (ok : Ok n l) (i j : Nat) : (((i : Int), (j : Int)) ∈ l ↔ (i, j) ∈ natL l) := by
  unfold natL
  rw [List.mem_map]
  constructor
  · intro h; exact ⟨_, h, rfl⟩
  · rintro ⟨⟨a, b⟩, h1, h2⟩
    have := ok.rng _ h1
    simp (implicitDefEqProofs := false) (dsimp := false) only [natP, Prod.mk.injEq] at h2 this
    have e1 : a = (i : Int) := by omega
    have e2 : b = (j : Int) := by omega
    rw [← e1, ← e2]; exact h1
theorem lTopoKahn_spec (n : Int) (l : List (Int × Int)) (hn : -9223372036854775808 ≤ n ∧ n ≤ 9223372036854775807) (hl : l.length < 2 ^ 43) : FnD Tryd.prog 4 [I .i64 n, .l (l.map lnD)] (Bo true) := by
  have hl62 : l.length < 2 ^ 62 := by omega
  refine FnD.go Tryd.func4 rfl rfl Tryd.results4 Tryd.ntmps4 ?_
  simp (implicitDefEqProofs := false) (dsimp := false) only [↓aw_seq, ↓aw_reg, ↓Qseq_n, ↓ops_nil, ↓ops_cons, ↓eval_bool, ↓eval_func, ↓put_some, ↓op_assign, ↓op_call, isD_d, ↓fnK_f, ↓call_H, ↓callK_H, ↓allT_nil, ↓td_d, List.set_cons_zero, List.set_cons_succ, List.cons_append, List.nil_append, List.append_nil, List.map_cons, List.map_nil, List.length_cons, List.length_nil, List.all_nil, Bool.and_self, Nat.reduceAdd, Nat.reduceSub, Nat.reduceMul, Nat.zero_add, List.replicate, evK_go, reduceIte, Nat.reduceEqDiff, Nat.reduceLT, and_self, Int.zero_add]
  simp (implicitDefEqProofs := false) (dsimp := false) only [topofact_call, order_call, lines_call, hl62, ↓cdK_false, ↓cdK_not, ↓nthK_H, ↓nthH_zero, ↓nthH_succ, ↓aw_cond, ↓aw_seq, ↓aw_skip, ↓aw_reg, ↓Qseq_n, ↓ops_nil, ↓ops_cons, ↓eval_tmp, ↓eval_int, ↓eval_func, ↓put_some, ↓bK_b, ↓tK_t, ↓binE_i, ↓bi_neq, ↓op_move, ↓op_assign, ↓op_bin, ↓op_not, ↓op_extract, ↓op_call, isD_d, ↓fnK_f, ↓call_H, ↓callK_H, ↓allT_nil, ↓allT_cons, ↓td_d, List.getD_cons_zero, List.getD_cons_succ, List.set_cons_zero, List.set_cons_succ, List.append_nil, List.all_cons, List.all_nil, Bool.true_and, Bool.and_self, Bool.true_or, Nat.reduceAdd, Nat.reduceSub, Nat.reduceMul, evK_go, reduceIte, Bool.not_true, Nat.reduceEqDiff, Nat.reduceLT, and_self, true_and]
  (repeat refine OrH.l ?_)
  by_cases hc : chk n l = 0
  rotate_left
  · have e1 : topoE n l = chk n l := if_neg hc
    have e2 : topoL n l = [] := if_neg hc
    have hd := decide_eq_false hc
    simp (implicitDefEqProofs := false) (dsimp := false) only [e1, e2, hc, eval_nilI, ↓er_neq, ↓cdK_true, ↓cdK_false, ↓gdK_t, ↓gval_mk, ↓gvL_zero, ↓gvL_succ, ↓aw_seq, ↓aw_ret, ↓aw_reg, ↓Qseq_n, ↓Qseq_r, ↓Qret_r, ↓ops_nil, ↓ops_cons, ↓ops_guard, ↓eval_tmp, ↓eval_int, ↓put_some, ↓bK_b, ↓lenK_l, ↓binE_i, ↓bi_eql, ↓op_move, ↓op_assign, ↓op_pick, ↓op_bin, ↓op_len, ↓td_d, ↓ret_1, ↓st_tm, ↓sl24, List.getD_cons_zero, List.getD_cons_succ, List.set_cons_zero, List.set_cons_succ, List.map_nil, List.length_nil, Nat.reduceAdd, Nat.reduceSub, Nat.reduceMul, evK_go, reduceIte, decide_true, decide_false, Bool.not_false, Nat.reduceEqDiff, Nat.reduceLT, Int.cast_ofNat_Int]
    skip
  have ok := chk_ok hc
  have hgo := goes_nat ok
  obtain ⟨m, rfl⟩ : ∃ m : Nat, n = (m : Int) := ⟨n.toNat, ok.n0⟩
  have hg : Good m (natL l) := by simpa using ok.good
  have hi8 : m ≤ 8 := by simpa using ok.hi
  have hlo : 1 ≤ m := by simpa using ok.lo
  have hrng := ok.rng
  have hcom := fun i (hi : i < m) => comR_iff (n := m) hgo hg (i := i) (j := i) hi
  have hback : ((List.range m).any fun i => comR m l i i) = true ↔ ∃ i, Path1 (natL l) i i := by
    rw [List.any_eq_true]
    constructor
    · rintro ⟨i, hi, h⟩; exact ⟨i, (hcom i (List.mem_range.1 hi)).1 h⟩
    · rintro ⟨i, h⟩; exact ⟨i, List.mem_range.2 (h.lt hg).1, (hcom i (h.lt hg).1).2 h⟩
  have hd := decide_eq_true hc
  have hEq : topoE (m : Int) l = if (topoO m (natL l)).isSome then 0 else 5 := by unfold topoE; rw [if_pos hc, Int.toNat_natCast]
  have hLq : topoL (m : Int) l = (topoO m (natL l)).getD [] := by unfold topoL; rw [if_pos hc, Int.toNat_natCast]
  have hti := topo_iff (n := m) (by omega) hg
  have hsome := fun o (h : topoO m (natL l) = some o) => topo_some (n := m) (by omega) hg h
  clear ok
  generalize topoE (m : Int) l = e at *
  generalize topoL (m : Int) l = o at *
  simp (implicitDefEqProofs := false) (dsimp := false) only [hd, ↓cdK_true, ↓aw_seq, ↓aw_block, ↓aw_skip, ↓aw_loop, ↓aw_reg, ↓Qseq_n, ↓ops_nil, ↓ops_cons, ↓eval_int, ↓eval_bool, ↓put_some, ↓op_assign, List.set_cons_zero, List.set_cons_succ, Nat.reduceAdd, Nat.reduceSub, Nat.reduceMul, evK_go, reduceIte, Bool.not_true, Nat.reduceEqDiff, Nat.reduceLT]
  refine loopW (fun i : Nat => { tm := slots 90 [(0, .d (I .i64 (m : Int))), (1, .d (.l (l.map lnD))), (6, .d (.l (o.map nD))), (7, .d (erD e)), (8, .d (Bo ((List.range i).any fun i => comR m l i i))), (9, .d (I .i64 i))], bx := [], rw := [] })
    (fun i => i ≤ m) (fun i => m - i) 0 (by simp) ?_ ?_
  · refine Wkn.of [] [] ?_; simp (implicitDefEqProofs := false) (dsimp := false) only [List.set_cons_zero, List.set_cons_succ, Bool.and_true, Bool.true_and, Bool.and_self, Nat.reduceAdd, Nat.reduceSub, Nat.reduceMul, List.replicate, evK_go, reduceIte, Nat.reduceEqDiff, Nat.reduceLT, and_self, true_and, and_true, List.foldl_cons, List.foldl_nil, Int.cast_ofNat_Int, slots, wkL_nil, wkL_cons, wkB_nil, wkR_nil, wkV_j, wkV_d, frz_d, dc_eq, reduceCtorEq]
    rfl
  · intro i hi
    simp (implicitDefEqProofs := false) (dsimp := false) only [slots, ↓aw_cond, ↓aw_seq, ↓aw_reg, ↓Qseq_n, ↓ops_nil, ↓ops_cons, ↓eval_tmp, ↓put_some, ↓bK_b, ↓binE_i, ↓bi_lss, ↓op_move, ↓op_bin, List.getD_cons_zero, List.getD_cons_succ, List.set_cons_zero, List.set_cons_succ, Nat.reduceAdd, Nat.reduceSub, Nat.reduceMul, List.replicate, evK_go, reduceIte, Nat.reduceEqDiff, Nat.reduceLT, List.foldl_cons, List.foldl_nil, Int.ofNat_lt]
    refine cdK_dec (fun h => ?_) (fun h => ?_)
    · have him : i < m := by omega
      have hcp : (m ≤ 40 ∧ i < m) ∧ l.length < 2 ^ 62 := ⟨⟨by omega, him⟩, hl62⟩
      have hs : ((List.range (i + 1)).any fun i => comR m l i i) = (((List.range i).any fun i => comR m l i i) || comR m l i i) := by
        rw [List.range_succ, List.any_append]; simp
      generalize ((List.range i).any fun i => comR m l i i) = t at hs ⊢
      cases t with
      | true =>
        rw [Bool.true_or] at hs
        simp (implicitDefEqProofs := false) (dsimp := false) only [↓cdK_true, ↓gdK_f, ↓gval_mk, ↓gvL_zero, ↓gvL_succ, ↓aw_seq, ↓aw_block, ↓aw_skip, ↓aw_reg, ↓Qseq_n, ↓Qblk_n, ↓ops_nil, ↓ops_cons, ↓ops_guard, ↓eval_tmp, ↓eval_int, ↓eval_bool, ↓put_some, ↓bK_b, ↓binE_i, ↓bi_add, ↓in_i64, ↓op_move, ↓op_assign, ↓op_pick, ↓op_bin, ↓st_tm, List.getD_cons_zero, List.getD_cons_succ, List.set_cons_zero, List.set_cons_succ, Nat.reduceAdd, Nat.reduceSub, Nat.reduceMul, evK_go, reduceIte, Nat.reduceEqDiff, Nat.reduceLT]
        refine ⟨by omega, i + 1, by omega, by omega, ?_⟩
        refine Wkn.of [] [] ?_; simp (implicitDefEqProofs := false) (dsimp := false) only [hs, List.set_cons_zero, List.set_cons_succ, Bool.and_self, Nat.reduceAdd, Nat.reduceSub, Nat.reduceMul, List.replicate, evK_go, reduceIte, Nat.reduceEqDiff, Nat.reduceLT, and_self, List.foldl_cons, List.foldl_nil, Int.cast_ofNat_Int, Int.natCast_add, slots, wkL_nil, wkL_cons, wkB_nil, wkR_nil, wkV_j, wkV_d, frz_d, reduceCtorEq]
      | false =>
        rw [Bool.false_or] at hs
        simp (implicitDefEqProofs := false) (dsimp := false) only [comes_call, hcp, ↓cdK_false, ↓gdK_f, ↓gval_mk, ↓gvL_zero, ↓gvL_succ, ↓aw_seq, ↓aw_block, ↓aw_skip, ↓aw_reg, ↓Qseq_n, ↓Qblk_n, ↓ops_nil, ↓ops_cons, ↓ops_guard, ↓eval_tmp, ↓eval_int, ↓eval_func, ↓put_some, ↓bK_b, ↓binE_i, ↓bi_add, ↓in_i64, ↓op_move, ↓op_assign, ↓op_pick, ↓op_bin, ↓op_call, isD_d, ↓fnK_f, ↓call_H, ↓callK_H, ↓allT_nil, ↓allT_cons, ↓td_d, ↓st_tm, List.getD_cons_zero, List.getD_cons_succ, List.set_cons_zero, List.set_cons_succ, List.append_nil, List.all_cons, List.all_nil, Bool.true_and, Bool.and_self, Bool.true_or, Nat.reduceAdd, Nat.reduceSub, Nat.reduceMul, evK_go, reduceIte, decide_true, Nat.reduceEqDiff, Nat.reduceLT, and_self, true_and]
        (repeat refine OrH.l ?_)
        refine ⟨by omega, i + 1, by omega, by omega, ?_⟩
        refine Wkn.of [] [] ?_; simp (implicitDefEqProofs := false) (dsimp := false) only [hs, List.set_cons_zero, List.set_cons_succ, Bool.and_self, Nat.reduceAdd, Nat.reduceSub, Nat.reduceMul, List.replicate, evK_go, reduceIte, Nat.reduceEqDiff, Nat.reduceLT, and_self, List.foldl_cons, List.foldl_nil, Int.cast_ofNat_Int, Int.natCast_add, slots, wkL_nil, wkL_cons, wkB_nil, wkR_nil, wkV_j, wkV_d, frz_d, reduceCtorEq]
    · obtain rfl : i = m := by omega
      cases ho : topoO i (natL l) with
      | none =>
        have hb := hback.2 (hti.1 ho)
        rw [ho] at hEq
        have hEq : e = 5 := hEq
        have h50 : decide ((5 : Int) = 0) = false := by decide
        have h55 : decide ((5 : Int) = 5) = true := by decide
        simp (implicitDefEqProofs := false) (dsimp := false) only [hb, hEq, h50, eerr_call, eval_nilI, ↓er_neq, ↓cdK_true, ↓gdK_t, ↓gval_mk, ↓gvL_zero, ↓gvL_succ, ↓aw_cond, ↓aw_seq, ↓aw_exit, ↓aw_ret, ↓aw_reg, ↓Qseq_n, ↓Qseq_x, ↓Qseq_r, ↓Qblk_x, ↓Qret_r, ↓ops_nil, ↓ops_cons, ↓ops_guard, ↓eval_tmp, ↓eval_int, ↓eval_func, ↓put_some, ↓bK_b, ↓op_move, ↓op_assign, ↓op_pick, ↓op_bin, ↓op_call, ↓orH_T, isD_d, ↓fnK_f, ↓call_H, ↓callK_H, ↓allT_nil, ↓allT_cons, ↓td_d, ↓ret_1, ↓st_tm, List.getD_cons_zero, List.getD_cons_succ, List.set_cons_zero, List.set_cons_succ, List.append_nil, List.all_cons, List.all_nil, Bool.and_self, Bool.true_or, Nat.reduceAdd, Nat.reduceSub, Nat.reduceMul, evK_go, reduceIte, decide_true, decide_false, Bool.not_false, Nat.reduceEqDiff, Nat.reduceLT, and_self, Nat.lt_irrefl]
        (repeat refine OrH.l ?_)
        skip
      | some o' =>
        have hb : ((List.range i).any fun x => comR i l x x) = false := by
          rw [← Bool.not_eq_true]
          intro h
          have := hti.2 (hback.1 h)
          rw [ho] at this
          cases this
        rw [ho] at hEq hLq
        have hEq : e = 0 := hEq
        have hLq : o = o' := hLq
        subst hLq
        have ht := hsome o ho
        have hF := ti_full ht
        have hidx := fun a b (h : (a, b) ∈ natL l) => ti_idx ht hg h
        have ho62 : o.length < 2 ^ 62 := by rw [hF.1]; omega
        have hol := hF.1
        have h00 : decide ((0 : Int) = 0) = true := by decide
        have hall : ((o.map Int.ofNat).all fun x => inB x 0 ((i : Int) - 1)) = true := by
          rw [List.all_eq_true]
          intro y hy
          obtain ⟨z, hz, rfl⟩ := List.mem_map.1 hy
          have := hF.2.2 z hz
          exact inW_iff.2 ⟨Int.natCast_nonneg z, by show (z : Int) ≤ _; omega⟩
        have htw : twice (o.map Int.ofNat) = false := by
          show (!decide _) = false
          rw [decide_eq_true]
          · rfl
          · rw [List.Nodup, List.pairwise_map]
            exact hF.2.1.imp fun {a b} h e => h (Int.ofNat.inj e)
        simp (implicitDefEqProofs := false) (dsimp := false) only [hb, hEq, hol, Option.isSome_some, rallN_call, rtwiceN_call, hall, htw, eval_nilI, ↓er_neq, ↓cdK_false, ↓gdK_f, ↓gval_mk, ↓gvL_zero, ↓gvL_succ, ↓aw_cond, ↓aw_seq, ↓aw_block, ↓aw_exit, ↓aw_skip, ↓aw_loop, ↓aw_reg, ↓Qseq_n, ↓Qseq_x, ↓Qblk_x, ↓ops_nil, ↓ops_cons, ↓ops_guard, ↓eval_tmp, ↓eval_int, ↓eval_func, ↓put_some, ↓bK_b, ↓lenK_l, ↓binE_i, ↓bi_sub, ↓bi_neq, ↓in_i64, ↓op_move, ↓op_assign, ↓op_pick, ↓op_bin, ↓op_not, ↓op_len, ↓op_call, isD_d, ↓fnK_f, ↓call_H, ↓callK_H, ↓allT_nil, ↓allT_cons, ↓td_d, ↓st_tm, ↓sl24, List.getD_cons_zero, List.getD_cons_succ, List.set_cons_zero, List.set_cons_succ, List.append_nil, List.length_map, List.all_cons, List.all_nil, Bool.true_and, Bool.and_self, Bool.true_or, Nat.reduceAdd, Nat.reduceSub, Nat.reduceMul, evK_go, reduceIte, decide_true, decide_false, Bool.not_true, Nat.reduceEqDiff, Nat.reduceLT, and_self, true_and, Nat.lt_irrefl]
        refine ⟨by omega, ?_⟩
        (repeat refine OrH.l ?_)
        refine ⟨by omega, ?_⟩
        (repeat refine OrH.l ?_)
        refine ⟨by omega, ?_⟩
        refine loopW (fun k : Nat => { tm := slots 90 [(1, .d (.l (l.map lnD))), (6, .d (.l (o.map nD))), (10, .d (I .i64 k))], bx := [], rw := [] })
          (fun k => k ≤ l.length) (fun k => l.length - k) 0 (by simp) ?_ ?_
        · refine Wkn.of [] [] ?_; simp (implicitDefEqProofs := false) (dsimp := false) only [List.set_cons_zero, List.set_cons_succ, Bool.and_self, Nat.reduceAdd, Nat.reduceSub, Nat.reduceMul, List.replicate, evK_go, reduceIte, Nat.reduceEqDiff, Nat.reduceLT, and_self, List.foldl_cons, List.foldl_nil, Int.cast_ofNat_Int, slots, wkL_nil, wkL_cons, wkB_nil, wkR_nil, wkV_j, wkV_d, frz_d, reduceCtorEq]
        · intro k hk
          simp (implicitDefEqProofs := false) (dsimp := false) only [slots, ↓aw_cond, ↓aw_seq, ↓aw_reg, ↓Qseq_n, ↓ops_nil, ↓ops_cons, ↓eval_tmp, ↓put_some, ↓bK_b, ↓lenK_l, ↓binE_i, ↓bi_lss, ↓op_move, ↓op_bin, ↓op_len, ↓sl22, List.getD_cons_zero, List.getD_cons_succ, List.set_cons_zero, List.set_cons_succ, List.length_map, Nat.reduceAdd, Nat.reduceSub, Nat.reduceMul, List.replicate, evK_go, reduceIte, Nat.reduceEqDiff, Nat.reduceLT, List.foldl_cons, List.foldl_nil, Int.ofNat_lt]
          refine cdK_dec (fun h5 => ?_) (fun h5 => ?_)
          · have hkl : k < l.length := by omega
            have hp := getD_mem hkl
            generalize hpd : l.getD k default = p at hp
            obtain ⟨x, y⟩ := p
            obtain ⟨r1, r2⟩ := hrng _ hp
            simp only at r1 r2
            obtain ⟨x, rfl⟩ : ∃ x' : Nat, x = (x' : Int) := ⟨x.toNat, by omega⟩
            obtain ⟨y, rfl⟩ : ∃ y' : Nat, y = (y' : Int) := ⟨y.toNat, by omega⟩
            have hxy := (hgo x y).1 hp
            have hxo := (full_pairs hF).1 x (hg _ hxy).1
            have hyo := (full_pairs hF).1 y (hg _ hxy).2
            have hle := hidx x y hxy
            have hdf : decide (o.idxOf y < o.idxOf x) = false := decide_eq_false (by omega)
            simp (implicitDefEqProofs := false) (dsimp := false) only [hkl, hpd, lnD, rplaceN_callQ, ho62, hxo, hyo, hdf, ↓cdK_false, ↓atK_H, ↓atH_map, ↓aw_cond, ↓aw_seq, ↓aw_block, ↓aw_skip, ↓aw_reg, ↓aw_draw, ↓Qseq_n, ↓Qblk_n, ↓ops_nil, ↓ops_cons, ↓eval_tmp, ↓eval_int, ↓eval_func, ↓put_some, ↓bK_b, ↓iK_i, ↓ev_move, ↓ev_load, ↓ev_bin, ↓ev_fa, ↓ev_ia, ↓binE_i, ↓bi_add, ↓bi_gtr, ↓in_i64, ↓ldK_q, ↓faK_q, ↓iaK_l, ↓op_move, ↓op_assign, ↓op_bin, isD_d, ↓fnK_f, ↓callKQ_H, ↓allT_nil, ↓allT_cons, ↓td_d, ↓draw_H, ↓h_nil, ↓h_cons, ↓ldH_n, ↓q_call, ↓q_move, ↓q_load, ↓q_bin, ↓q_fa, ↓q_ia, ↓il_move, ↓il_load, ↓il_bin, ↓il_fa, ↓il_ia, ↓il_call, ↓cells_s, ↓hd_cons, ↓ty3, ↓sl22, ↓ty41, ↓fd41_0, ↓fd41_1, List.getD_cons_zero, List.getD_cons_succ, List.set_cons_zero, List.set_cons_succ, List.append_nil, List.length_cons, List.length_nil, List.all_cons, List.all_nil, Bool.true_and, Bool.and_self, Bool.true_or, Nat.reduceAdd, Nat.reduceSub, Nat.reduceMul, Nat.zero_add, Int.toNat_natCast, evK_go, reduceIte, decide_true, Nat.reduceEqDiff, Nat.reduceLT, and_self, true_and, Int.zero_add, List.drop_zero, List.drop_succ_cons, Int.ofNat_lt, Int.natCast_nonneg]
            refine OrH.l ⟨DrawH.of follows_mixed (by kernel_rfl), ?_⟩
            (repeat refine OrH.l ?_)
            refine ⟨by omega, k + 1, by omega, by omega, ?_⟩
            refine Wkn.of [] [] ?_; simp (implicitDefEqProofs := false) (dsimp := false) only [List.set_cons_zero, List.set_cons_succ, Bool.and_self, Nat.reduceAdd, Nat.reduceSub, Nat.reduceMul, List.replicate, evK_go, reduceIte, Nat.reduceEqDiff, Nat.reduceLT, and_self, List.foldl_cons, List.foldl_nil, Int.cast_ofNat_Int, Int.natCast_add, slots, wkL_nil, wkL_cons, wkB_nil, wkR_nil, wkV_j, wkV_d, frz_d, reduceCtorEq]
          · simp (implicitDefEqProofs := false) (dsimp := false) only [↓aw_seq, ↓aw_exit, ↓aw_ret, ↓aw_reg, ↓Qseq_n, ↓Qseq_x, ↓Qblk_x, ↓Qret_r, ↓ops_nil, ↓ops_cons, ↓eval_tmp, ↓eval_bool, ↓put_some, ↓op_assign, ↓td_d, ↓ret_1, List.getD_cons_zero, List.getD_cons_succ, List.set_cons_zero, List.set_cons_succ, Nat.reduceAdd, Nat.reduceSub, Nat.reduceMul, evK_go, reduceIte, Nat.reduceEqDiff, Nat.reduceLT]
            skip
end Go.Proofs

namespace Go.Proofs
set_option maxRecDepth 100000
theorem cutNo : ("cut".toList == "gc".toList || "cut".toList == "spec".toList) = false := by kernel_rfl
theorem cutNo2 : ("cut".toList == "carried".toList) = false := by kernel_rfl
theorem cutStrip (T : List (List Char)) : stripLifts liftWords ("cut".toList :: T) = ([], "cut".toList :: T) := by kernel_rfl
theorem make_of {P : Program} {T : List (List Char)} (h : behindMainWord (wordsSigns P.initOrder.toList) = "cut".toList :: T) : P.make = some .cut := by
  unfold Program.make
  rw [h]
  simp (implicitDefEqProofs := false) (dsimp := false) only [cutNo, beq_self_eq_true, Bool.true_or, Bool.false_eq_true, if_false, if_true]
theorem enter_of {P : Program} {T : List (List Char)} (h : behindMainWord (wordsSigns P.initOrder.toList) = "cut".toList :: T) (h1 : P.laysLater = false) (h2 : P.bearsReflect = false) (h3 : P.doorFits [] = true) : P.mayEnter = true := by
  unfold Program.mayEnter
  rw [h]
  simp (implicitDefEqProofs := false) (dsimp := false) only [cutStrip, cutNo, cutNo2, h1, h2, h3, List.head?_cons, beq_self_eq_true, Bool.not_false, Bool.or_true, Bool.and_true, Bool.true_and]
  rfl
theorem final_of {P : Program} {T : List (List Char)} (h : behindMainWord (wordsSigns P.initOrder.toList) = "cut".toList :: T) : P.liftsFinal = false := by
  unfold Program.liftsFinal Program.headLifts
  rw [h]
  simp (implicitDefEqProofs := false) (dsimp := false) only [cutStrip]
  kernel_rfl
theorem cutWord : behindMainWord (wordsSigns Tryd.prog.initOrder.toList) = "cut".toList :: (behindMainWord (wordsSigns Tryd.prog.initOrder.toList)).tail := by
  have h : Tryd.prog.initOrder.toList = _ := String.toList_ofList
  rw [h]
  show (_ : List (List Char)) = _
  kernel_rfl
theorem pLater : Tryd.prog.laysLater = false := by
  unfold Program.laysLater
  rw [← Array.any_toList]
  kernel_rfl
theorem pReflect : Tryd.prog.bearsReflect = false := by kernel_rfl
theorem pDoor : Tryd.prog.doorFits [] = true := by kernel_rfl
theorem pMake : Tryd.prog.make = some .cut := make_of cutWord
theorem pEnter : Tryd.prog.mayEnter = true := enter_of cutWord pLater pReflect pDoor
theorem pFinal : Tryd.prog.liftsFinal = false := final_of cutWord
theorem pLaid : laidOutB Tryd.prog = true := by kernel_rfl
theorem pRowed : mapsRowed Tryd.prog = true := by kernel_rfl
theorem pStops : (Tryd.prog.stops == []) = true := by kernel_rfl
theorem pKnobs : (Tryd.prog.stopKnobs == []) = true := by kernel_rfl
theorem pHeard : Tryd.prog.stopsHeard = true := by kernel_rfl
theorem pMain : Tryd.prog.mainIs = some (true, "ef528b23815b70c2662300e7e3ba81efdd8130d758234ace3c638d7836b90011".toList) := by
  have h : Tryd.prog.initOrder.toList = _ := String.toList_ofList
  unfold Program.mainIs
  rw [h]
  show (_ : Option (Bool × List Char)) = _
  kernel_rfl
theorem pLooks : true = Tryd.prog.looks [] := by kernel_rfl
theorem pOwn : ownKnob Tryd.prog.godebug = none := by kernel_rfl
theorem andB {a b : Bool} (ha : a = true) (hb : b = true) : (a && b) = true := by rw [ha, hb]; rfl
end Go.Proofs
