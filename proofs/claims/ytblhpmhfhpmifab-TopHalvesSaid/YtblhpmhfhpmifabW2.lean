/- Part W 2 of what the proof of TopHalves stands on: what the functions of the program compute. -/
import Derived.Test.YtblhpmhfhpmifabW1
import Derived.Test.YtblhpmhfhpmifabRows
import Derived.ProofKit
import Derived.JoinedCond
import Derived.SizedLaws
import Derived.ReadAgain
import Derived.Deep.SlicePairs
import Derived.Deep.Matrix
import Derived.Lib.SmallJoins
set_option linter.unusedVariables false
set_option linter.unusedSimpArgs false
namespace Go.Proofs
open Go.Aw Go.ChangeShapes Go.WideShapes Go.ChangeAt Go.RowKit Go.Deep
set_option linter.unusedVariables false
set_option maxRecDepth 100000
theorem tkids : Kids Try.prog (· < Try.prog.types.size) := kids_rows (by kernel_rfl) (by kernel_rfl)
theorem tfull : ∀ t e, t < Try.prog.types.size → Try.prog.underlying t = some (.slice e) → 0 < Try.prog.cellsOf e := slices_full_of _ (by kernel_rfl)
theorem tu3 : Try.prog.underlying 3 = some (.int .i64) := by kernel_rfl
theorem tu4 : Try.prog.underlying 4 = some .bool := by kernel_rfl
theorem tu22 : Try.prog.underlying 22 = some (.slice 28) := by kernel_rfl
theorem tc35 : Try.prog.cellsOf 28 = 2 := by kernel_rfl
theorem tc3 : Try.prog.cellsOf 3 = 1 := by kernel_rfl
theorem tb35 : Try.prog.bytesOf 28 = 16 := by kernel_rfl
section
variable {H : Type} {enc : TypeId × Value → H} {P : Program} {w w' : World} {base : Nat} {spare : Nat → Bool} {held : Bool}
theorem trodAll_later : ∀ {ts : List TypeId} {vs : List Value} {ds : List (DataW H)} {ps : List MemPlace}, DataW.TrodAll enc P w base spare held ts vs ds ps → (∀ p ∈ ps, w.sameAt w' p) → DataW.TrodAll enc P w' base spare held ts vs ds ps
  | [], [], [], _, h, _ => h
  | _ :: _, _ :: _, _ :: _, _, ⟨p, q, ⟨n, h1⟩, h2, e⟩, hs => ⟨p, q, ⟨n, DataW.trod_carry n _ _ _ h1 (fun x hx => hs x (by rw [e]; exact List.mem_append_left _ hx))⟩, trodAll_later h2 (fun x hx => hs x (by rw [e]; exact List.mem_append_right _ hx)), e⟩
end
/-- A law's end: true, and all as it was. -/
theorem law_post {H : Type} {enc : TypeId × Value → H} {fn : Func} {s : ChangeSpec} {W W' : World} {args : Array Value} {ds gs : List (DataW H)} {before : List MemPlace} (hv : s.vars = []) (hrt : fn.resultTypes = #[4])
    (hpt : ∀ t ∈ fn.params.toList, t < Try.prog.types.size) (hW : DataW.Whole enc Try.prog fn.params.toList s.vars false W args.toList ds gs before)
    (hs : (s.fn H (ds ++ gs)).results = [.lit (.bool true)] ∧ (s.fn H (ds ++ gs)).args = ds ∧ (s.fn H (ds ++ gs)).vars = []) (hB : Below W.heap.size W W') : s.post enc Try.prog fn false true false false W args (.bool true) W' := by
  have hW' := hW
  obtain ⟨p, q, hA, hV, rfl, hfz, hnd⟩ := hW
  have hlt := hW'.lt
  rw [hv] at hV
  obtain ⟨rfl, rfl⟩ := trodVars_none hV
  obtain ⟨h1, h2, h3⟩ := hs
  refine ⟨ds, [], p ++ [], [], p, [], hW', ?_, ?_, ?_, hB.frame _, fun h => by cases h⟩
  · rw [h1, hrt]
    exact trodAll_mk1 (shut_bool tu4 true)
  · rw [h2]
    refine DataW.TrodAll.respare tkids tfull hpt (trodAll_later hA fun x hx => hB.same (hlt x (List.mem_append_left _ hx))) fun x hx => ?_
    simpa using hlt x (List.mem_append_left _ hx)
  · rw [h3, hv]; rfl
/-- What lies there already. -/
abbrev Old (W : World) (b : Nat) : Prop := b < W.heap.size
section
variable {H : Type} {enc : TypeId × Value → H} {W : World} {held : Bool}
theorem arg_int {v : Value} {d : DataW H} {p : List MemPlace} {r : Reach} {b0 : Nat} (hval : Value.okWide Try.prog W r b0 3 v) (h : DataW.Trod enc Try.prog W 0 (fun _ => true) held 3 v d p) : ∃ n : Int, RelD W (Old W) (I .i64 n) v ∧ (-9223372036854775808 ≤ n ∧ n ≤ 9223372036854775807) := by
  obtain ⟨n, rfl, _, _, hw⟩ := open_int tu3 hval h
  exact ⟨n, .c _, by simpa [Lit.wf, IntKind.min, IntKind.max, IntKind.signed, IntKind.bits] using hw⟩
theorem arg_lines {v : Value} {d : DataW H} {p : List MemPlace} {r : Reach} {b0 : Nat} (hval : Value.okWide Try.prog W r b0 22 v) (h : DataW.Trod enc Try.prog W 0 (fun _ => true) held 22 v d p) :
    ∃ l : List (Int × Int), RelD W (Old W) (.l (l.map lnD)) v ∧ ((d = .nil ∧ l = []) ∨ ∃ elems spare, d = .slice elems spare ∧ elems.length = l.length) := by
  obtain ⟨a0, len, cap, rfl⟩ := okWide_slice tu22 hval
  obtain ⟨fuel, hf⟩ := h
  rcases open_slice_pairs tu22 Try.underlying28 tc35 rfl rfl tc3 tc3 hf with ⟨hcs, hx⟩ | ⟨a, len', cap', m, n, V0, V1, D0, D1, P0, P1, hcs, _, hl, hm, hmm, hx, hc⟩
  · simp [Value.cells] at hcs
    obtain ⟨rfl, rfl, rfl⟩ := hcs
    simp (implicitDefEqProofs := false) (dsimp := false) only [Prod.mk.injEq] at hx
    exact ⟨[], .nl none 0, .inl ⟨hx.1, rfl⟩⟩
  · simp [Value.cells] at hcs
    obtain ⟨rfl, rfl, rfl⟩ := hcs
    simp (implicitDefEqProofs := false) (dsimp := false) only [Prod.mk.injEq] at hx
    simp (implicitDefEqProofs := false) (dsimp := false) only [if_true] at hmm
    subst hmm
    have hint : ∀ i, ∃ q : Int × Int, i < len → W.cell? (a.add (i * 2)) = some (.int .i64 q.1) ∧ W.cell? (a.add (i * 2 + 1)) = some (.int .i64 q.2) := by
      intro i
      by_cases hi : i < len
      · obtain ⟨h1, h2, h3, h4⟩ := hc i (by omega)
        obtain ⟨x, e1, _, _⟩ := DataW.trod_int tu3 h3
        obtain ⟨y, e2, _, _⟩ := DataW.trod_int tu3 h4
        simp (implicitDefEqProofs := false) (dsimp := false) only [List.cons.injEq, and_true] at e1 e2
        exact ⟨(x, y), fun _ => ⟨by rw [h1, e1], by rw [h2, e2]⟩⟩
      · exact ⟨(0, 0), fun h => absurd h hi⟩
    obtain ⟨Q, hQ⟩ : ∃ Q : Nat → Int × Int, ∀ i, i < len → W.cell? (a.add (i * 2)) = some (.int .i64 (Q i).1) ∧ W.cell? (a.add (i * 2 + 1)) = some (.int .i64 (Q i).2) := ⟨fun i => Classical.choose (hint i), fun i => Classical.choose_spec (hint i)⟩
    refine ⟨(List.range len).map Q, ?_, .inr ⟨_, _, hx.1, by simp⟩⟩
    by_cases h0 : len = 0
    · subst h0; exact .nl _ _
    have hxs : ∀ (i : Nat) (x : D), (((List.range len).map Q).map lnD)[i]? = some x → i < len ∧ x = lnD (Q i) := by
      intro i x hx
      rw [List.getElem?_map, List.getElem?_map] at hx
      by_cases hi : i < len
      · rw [List.getElem?_range hi] at hx
        simp at hx
        exact ⟨hi, hx.symm⟩
      · rw [List.getElem?_eq_none (by simp; omega)] at hx; cases hx
    have hlen : len = (((List.range len).map Q).map lnD).length := by simp
    have hrel := RelD.l (w := W) (N := Old W) (((List.range len).map Q).map lnD) a _ 2 (fun i k => if k = 0 then .int .i64 (Q i).1 else .int .i64 (Q i).2) (by rw [← hlen]; exact hl) ?_ ?_ ?_ ?_
    · rw [← hlen] at hrel
      exact hrel
    · have := (hQ 0 (by omega)).1
      unfold World.cell? at this
      split at this
      · rename_i C et fr hb
        have hb' := (Array.getElem?_eq_some_iff.1 hb).1
        rw [add_block] at hb'
        exact hb'
      · cases this
    · intro i x hx
      obtain ⟨_, rfl⟩ := hxs i x hx
      rfl
    · intro i k x y hx hy
      obtain ⟨hi, rfl⟩ := hxs i x hx
      match k, hy with
      | 0, hy => exact (hQ i hi).1
      | 1, hy => exact (hQ i hi).2
    · intro i k x y hx hy
      obtain ⟨hi, rfl⟩ := hxs i x hx
      match k, hy with
      | 0, hy => cases hy; exact .c _
      | 1, hy => cases hy; exact .c _
theorem lines_len {ts : List TypeId} {ds : List (DataW H)} {j : Nat} {l : List (Int × Int)} (h : (DataW.weightsEach Try.prog ts ds).all (· ≤ reachBytes) = true) (ht : ts[j]? = some 22) {d : DataW H} (hd : ds[j]? = some d)
    (hl : (d = .nil ∧ l = []) ∨ ∃ elems spare, d = .slice elems spare ∧ elems.length = l.length) : l.length < 2 ^ 43 := by
  rcases hl with ⟨_, rfl⟩ | ⟨elems, spare, rfl, e⟩
  · simp
  · have := sized_slice h ht hd tu22
    rw [tb35] at this
    have := reachBytes_lt
    omega
end
theorem argsOK_nil (w : World) (N : Nat → Prop) : ArgsOK w N [] [] := ⟨rfl, fun k d v h => by simp at h⟩
theorem argsOK_cons {w : World} {N : Nat → Prop} {d : D} {ds : List D} {v : Value} {vs : List Value} (h : RelD w N d v) (hs : ArgsOK w N ds vs) : ArgsOK w N (d :: ds) (v :: vs) :=
  ⟨by simp [hs.1], fun k d' v' hd hv => by
    cases k with
    | zero => simp at hd hv; subst hd; subst hv; exact h
    | succ k => exact hs.2 k d' v' (by simpa using hd) (by simpa using hv)⟩
theorem pGl (W : World) : Gl Try.prog W := fun g hg => by
  rw [show Try.prog.globalNamed "errors.errorType" = none by kernel_rfl] at hg
  cases hg
/-- A law's call. -/
theorem law_calls {f : FuncId} {ds : List D} (h : FnD Try.prog f ds (Bo true)) (W : World) (hg : Gl Try.prog W) (vs : List Value) (ha : ArgsOK W (Old W) ds vs) : Calls Try.prog f vs.toArray W fun e W' => e = .returned (.bool true) ∧ Below W.heap.size W W' := by
  have := callsIn_wide.1 (h.2 W (Old W) vs hg (fun b h => h) ha)
  refine this.mono fun e W' ⟨r, v, hr, he, hB, hres⟩ => ?_
  subst hr
  have hv : v = .bool true := relD_c hres
  exact ⟨by rw [he, hv], hB⟩
end Go.Proofs

namespace Go.Proofs
open Go.Aw
set_option linter.unusedSimpArgs false
set_option maxRecDepth 10000
def flipI (p : Int × Int) : Int × Int := (p.2, p.1)
/-- Lines from the last one on, each the other way. -/
def backI (l : List (Int × Int)) : List (Int × Int) := l.reverse.map flipI
end Go.Proofs

namespace Go.Proofs
open Go.Aw
set_option linter.unusedSimpArgs false
set_option maxRecDepth 10000
theorem firstErr_iff {f : Int × Int → Int} {l : List (Int × Int)} : firstErr f l = 0 ↔ ∀ p ∈ l, f p = 0 := by
  refine ⟨firstErr_zero, fun h => ?_⟩
  induction l with
  | nil => rfl
  | cons p l ih =>
    simp (implicitDefEqProofs := false) (dsimp := false) only [firstErr, h p (by simp), if_true]
    exact ih fun q hq => h q (by simp [hq])
end Go.Proofs

namespace Go.Proofs
open Go.Aw
set_option linter.unusedSimpArgs false
set_option maxRecDepth 10000
theorem inB_iff {x lo hi : Int} : inB x lo hi = true ↔ lo ≤ x ∧ x ≤ hi := by simp [inB]
end Go.Proofs

namespace Go.Proofs
open Go.Aw
set_option linter.unusedSimpArgs false
set_option maxRecDepth 10000
/-- All but one. -/
def butK {α : Type} [Inhabited α] (l : List α) (k : Int) (i : Nat) : List α := ((List.range i).filter fun j : Nat => !decide ((j : Int) = k)).map fun j => l.getD j default
def butL {α : Type} [Inhabited α] (l : List α) (k : Int) : List α := butK l k l.length
/-- The place of a number. -/
def place (l : List Int) (n : Int) : Int := if n ∈ l then (l.idxOf n : Nat) else -1
/-- How many are false. -/
def missN (l : List Bool) : Nat := l.countP fun b => !b
end Go.Proofs

namespace Go.Proofs
open Go.Aw
set_option linter.unusedSimpArgs false
set_option maxRecDepth 10000
def cfL : List (Int × Int) := [(0, 1), (1, 2), (0, 2)]
end Go.Proofs

namespace Go.Proofs
open Go.Aw
set_option linter.unusedSimpArgs false
set_option maxRecDepth 10000
/-- What is known of where ways go. -/
structure CW (n : Int) (l : List (Int × Int)) (M : List (List Int)) (m : Nat) : Prop where
  n0 : n = (m : Int)
  hi : m ≤ 8
  llen : l.length ≤ 24
  len : M.length = m
  sz : ∀ i : Nat, (M.getD i default).length ≤ 64
  line : ∀ p ∈ l, ∃ x y : Nat, p = ((x : Int), (y : Int)) ∧ x < m ∧ y < m ∧ x ≠ y ∧ (y : Int) ∈ M.getD x default
  pt : ∀ (a : Nat) (b : Int), b ∈ M.getD a default → ∃ c : Nat, b = (c : Int) ∧ c < m ∧ a < m
  tr : ∀ (a b : Nat) (c : Int), (b : Int) ∈ M.getD a default → c ∈ M.getD b default → c ∈ M.getD a default
end Go.Proofs

namespace Go.Proofs
open Go.Aw
set_option linter.unusedSimpArgs false
set_option maxRecDepth 10000
def intP (p : Nat × Nat) : Int × Int := ((p.1 : Int), (p.2 : Int))
def intL (l : List (Nat × Nat)) : List (Int × Int) := l.map intP
structure FW (n : Int) (l F : List (Int × Int)) : Prop where
  chk0 : chk n l = 0
  chkF : chk n F = 0
  same : closeAll n F = closeAll n l
  len : F.length ≤ l.length
  sub : ∀ p ∈ F, p ∈ l
  need : ∀ k : Nat, k < F.length → chk n (butL F (k : Int)) = 0 ∧ closeAll n (butL F (k : Int)) ≠ closeAll n l
end Go.Proofs

namespace Go.Proofs
open Go.Aw
set_option linter.unusedSimpArgs false
set_option maxRecDepth 10000
def mErr (left right : Int) (p : Int × Int) : Int := if (inB p.1 0 (left - 1) && inB p.2 0 (right - 1)) = true then 0 else 1
def mchk (left right : Int) (l : List (Int × Int)) : Int := if (inB left 0 6 && inB right 0 6) = false then 1 else if 24 < l.length then 4 else firstErr (mErr left right) l
theorem mcheck_spec (left right : Int) (l : List (Int × Int)) (hpre : l.length < 2 ^ 62) : FnD Try.prog 28 [I .i64 left, I .i64 right, .l (l.map lnD)] (erD (mchk left right l)) := by
  refine FnD.go Try.func28 rfl rfl Try.results28 Try.ntmps28 ?_
  simp (implicitDefEqProofs := false) (dsimp := false) only [↓aw_seq, ↓aw_reg, ↓Qseq_n, ↓ops_nil, ↓ops_cons, ↓eval_tmp, ↓eval_int, ↓eval_func, ↓put_some, ↓op_move, ↓op_assign, ↓op_call, isD_d, ↓fnK_f, ↓call_H, ↓callK_H, ↓allT_nil, ↓allT_cons, ↓td_d, List.getD_cons_zero, List.getD_cons_succ, List.set_cons_zero, List.set_cons_succ, List.cons_append, List.nil_append, List.append_nil, List.map_cons, List.map_nil, List.length_cons, List.length_nil, List.all_cons, List.all_nil, Bool.and_self, Nat.reduceAdd, Nat.reduceSub, Nat.reduceMul, Nat.zero_add, List.replicate, evK_go, reduceIte, Nat.reduceEqDiff, Nat.reduceLT, and_self, Int.zero_add]
  simp (implicitDefEqProofs := false) (dsimp := false) only [within_call, eval_nilI, ↓cdK_not, ↓gdK_f, ↓gval_mk, ↓gvL_zero, ↓gvL_succ, ↓ops_cons, ↓ops_guard, ↓eval_tmp, ↓put_some, ↓bK_b, ↓op_move, ↓op_not, ↓st_tm, List.getD_cons_zero, List.getD_cons_succ, List.set_cons_zero, List.set_cons_succ, Bool.true_and, Bool.true_or, Nat.reduceAdd, Nat.reduceSub, Nat.reduceMul, evK_go, reduceIte, Nat.reduceEqDiff, Nat.reduceLT, true_and]
  refine OrH.l (OrH.l (cdK_split (fun hA => ?_) (fun hA => ?_)))
  rotate_left
  · have e : mchk left right l = 1 := by simp (implicitDefEqProofs := false) (dsimp := false) only [mchk, hA, Bool.false_and, reduceIte]
    rw [e]
    simp (implicitDefEqProofs := false) (dsimp := false) only [hA, nc43, erD_1, ↓cdK_true, ↓gdK_f, ↓gval_mk, ↓gvL_zero, ↓gvL_succ, ↓aw_cond, ↓aw_seq, ↓aw_ret, ↓aw_reg, ↓Qseq_n, ↓Qseq_r, ↓Qret_r, ↓ops_nil, ↓ops_cons, ↓ops_guard, ↓eval_tmp, ↓eval_int, ↓eval_bool, ↓put_some, ↓bK_b, ↓vK_c, ↓op_assign, ↓op_pick, ↓op_iface, ↓td_d, ↓ret_1, ↓st_tm, ↓nc43, List.getD_cons_zero, List.getD_cons_succ, List.set_cons_zero, List.set_cons_succ, Bool.and_self, Nat.reduceAdd, Nat.reduceSub, Nat.reduceMul, evK_go, reduceIte, Bool.not_false, Nat.reduceEqDiff, Nat.reduceLT, and_self]
  simp (implicitDefEqProofs := false) (dsimp := false) only [hA, within_call, ↓cdK_false, ↓cdK_not, ↓gdK_f, ↓gval_mk, ↓gvL_zero, ↓gvL_succ, ↓aw_cond, ↓Qseq_n, ↓ops_nil, ↓ops_cons, ↓ops_guard, ↓eval_tmp, ↓eval_int, ↓eval_func, ↓put_some, ↓bK_b, ↓op_move, ↓op_pick, ↓op_not, ↓op_call, isD_d, ↓fnK_f, ↓call_H, ↓callK_H, ↓allT_nil, ↓allT_cons, ↓td_d, ↓st_tm, List.getD_cons_zero, List.getD_cons_succ, List.set_cons_zero, List.set_cons_succ, List.append_nil, List.all_cons, List.all_nil, Bool.true_and, Bool.and_self, Bool.true_or, Nat.reduceAdd, Nat.reduceSub, Nat.reduceMul, evK_go, reduceIte, Bool.not_true, Nat.reduceEqDiff, Nat.reduceLT, and_self, true_and]
  refine OrH.l (OrH.l (cdK_split (fun hB => ?_) (fun hB => ?_)))
  rotate_left
  · have e : mchk left right l = 1 := by simp (implicitDefEqProofs := false) (dsimp := false) only [mchk, hB, Bool.and_false, reduceIte]
    rw [e]
    simp (implicitDefEqProofs := false) (dsimp := false) only [hB, nc43, erD_1, ↓aw_seq, ↓aw_ret, ↓aw_reg, ↓Qseq_n, ↓Qseq_r, ↓Qret_r, ↓ops_nil, ↓ops_cons, ↓eval_tmp, ↓eval_int, ↓put_some, ↓vK_c, ↓op_assign, ↓op_iface, ↓td_d, ↓ret_1, ↓nc43, List.getD_cons_zero, List.getD_cons_succ, List.set_cons_zero, List.set_cons_succ, Bool.and_self, Nat.reduceAdd, Nat.reduceSub, Nat.reduceMul, evK_go, reduceIte, Bool.not_false, Nat.reduceEqDiff, Nat.reduceLT, and_self]
  simp (implicitDefEqProofs := false) (dsimp := false) only [hB, ↓aw_cond, ↓aw_seq, ↓aw_skip, ↓aw_reg, ↓Qseq_n, ↓ops_nil, ↓ops_cons, ↓eval_tmp, ↓eval_int, ↓put_some, ↓bK_b, ↓lenK_l, ↓binE_i, ↓bi_gtr, ↓op_move, ↓op_bin, ↓op_len, ↓sl22, List.getD_cons_zero, List.getD_cons_succ, List.set_cons_zero, List.set_cons_succ, List.length_map, Nat.reduceAdd, Nat.reduceSub, Nat.reduceMul, evK_go, reduceIte, Bool.not_true, Nat.reduceEqDiff, Nat.reduceLT]
  refine cdK_dec (fun h24 => ?_) (fun h24 => ?_)
  · have e : mchk left right l = 4 := by
      unfold mchk
      rw [hA, hB, if_neg (by decide), if_pos (by omega)]
    rw [e]
    simp (implicitDefEqProofs := false) (dsimp := false) only [nc43, erD_4, ↓aw_seq, ↓aw_ret, ↓aw_reg, ↓Qseq_n, ↓Qseq_r, ↓Qret_r, ↓ops_nil, ↓ops_cons, ↓eval_tmp, ↓eval_int, ↓put_some, ↓vK_c, ↓op_assign, ↓op_iface, ↓td_d, ↓ret_1, ↓nc43, List.getD_cons_zero, List.getD_cons_succ, List.set_cons_zero, List.set_cons_succ, Bool.and_self, Nat.reduceAdd, Nat.reduceSub, Nat.reduceMul, evK_go, reduceIte, Nat.reduceEqDiff, Nat.reduceLT, and_self]
  have hc : mchk left right l = firstErr (mErr left right) l := by
    unfold mchk
    rw [hA, hB, if_neg (by decide), if_neg (by omega)]
  rw [hc]
  simp (implicitDefEqProofs := false) (dsimp := false) only [↓aw_seq, ↓aw_block, ↓aw_skip, ↓aw_loop, ↓aw_reg, ↓Qseq_n, ↓ops_nil, ↓ops_cons, ↓eval_tmp, ↓eval_int, ↓put_some, ↓lenK_l, ↓op_move, ↓op_len, ↓sl22, List.getD_cons_zero, List.getD_cons_succ, List.set_cons_zero, List.set_cons_succ, List.length_map, Nat.reduceAdd, Nat.reduceSub, Nat.reduceMul, evK_go, reduceIte, Nat.reduceEqDiff, Nat.reduceLT]
  have hA' := inB_iff.1 hA
  have hB' := inB_iff.1 hB
  refine loopW (fun k : Nat => { tm := slots 44 [(0, .d (I .i64 left)), (1, .d (I .i64 right)), (22, .d (.l (l.map lnD))), (23, .d (I .i64 l.length)), (24, .d (I .i64 k))], bx := [], rw := [] })
    (fun k => k ≤ l.length ∧ firstErr (mErr left right) (l.take k) = 0) (fun k => l.length - k) 0 ⟨by simp, by simp [firstErr]⟩ ?_ ?_
  · refine Wkn.of [] [] ?_; simp (implicitDefEqProofs := false) (dsimp := false) only [List.set_cons_zero, List.set_cons_succ, Bool.and_self, Nat.reduceAdd, Nat.reduceSub, Nat.reduceMul, List.replicate, evK_go, reduceIte, Nat.reduceEqDiff, Nat.reduceLT, and_self, List.foldl_cons, List.foldl_nil, Int.cast_ofNat_Int, slots, wkL_nil, wkL_cons, wkB_nil, wkR_nil, wkV_j, wkV_d, frz_d, reduceCtorEq]
  · rintro k ⟨h1, h2⟩
    simp (implicitDefEqProofs := false) (dsimp := false) only [slots, ↓aw_cond, ↓aw_seq, ↓aw_reg, ↓Qseq_n, ↓ops_nil, ↓ops_cons, ↓eval_tmp, ↓put_some, ↓bK_b, ↓binE_i, ↓bi_lss, ↓op_bin, List.getD_cons_zero, List.getD_cons_succ, List.set_cons_zero, List.set_cons_succ, Nat.reduceAdd, Nat.reduceSub, Nat.reduceMul, List.replicate, evK_go, reduceIte, Nat.reduceEqDiff, Nat.reduceLT, List.foldl_cons, List.foldl_nil, Int.ofNat_lt]
    refine cdK_dec (fun h => ?_) (fun h => ?_)
    · obtain ⟨g1, g2⟩ := firstErr_take h h2
      simp (implicitDefEqProofs := false) (dsimp := false) only [h, lnD, within_call, ↓cdK_not, ↓gdK_f, ↓gval_mk, ↓gvL_zero, ↓gvL_succ, ↓atK_H, ↓atH_map, ↓nthK_H, ↓nthH_zero, ↓aw_seq, ↓aw_block, ↓aw_skip, ↓aw_reg, ↓Qseq_n, ↓ops_nil, ↓ops_cons, ↓ops_guard, ↓eval_tmp, ↓eval_int, ↓eval_func, ↓put_some, ↓put_none, ↓bK_b, ↓iK_i, ↓binE_i, ↓bi_sub, ↓in_i64, ↓ldK_q, ↓ldK_p, ↓faK_p, ↓iaK_l, ↓op_move, ↓op_load, ↓op_bin, ↓op_not, ↓op_fa, ↓op_ia, ↓op_call, ↓op_alloc, ↓op_store, isD_d, ↓fnK_f, ↓call_H, ↓callK_H, ↓allT_nil, ↓allT_cons, ↓td_d, ↓addBox_mk, ↓setBox_mk, ↓st_tm, ↓st_bx, ↓cells_s, ↓vcells_s, ↓one_i, ↓vone_d, constV_a, ↓st_p, ↓ty3, ↓sl22, ↓ty28, ↓zb28, ↓fd28_0, List.getD_cons_zero, List.getD_cons_succ, List.set_cons_zero, List.set_cons_succ, List.nil_append, List.append_nil, List.map_cons, List.map_nil, List.length_cons, List.length_nil, List.all_cons, List.all_nil, Bool.true_and, Bool.and_self, Bool.true_or, Nat.reduceAdd, Nat.reduceSub, Nat.reduceMul, Nat.zero_add, Nat.add_zero, Int.toNat_natCast, evK_go, reduceIte, decide_true, Nat.reduceEqDiff, Nat.reduceLT, and_self, true_and, Int.zero_add, List.take_succ_cons, List.take_nil, Int.natCast_nonneg]
      refine ⟨by decide, by omega, OrH.l (OrH.l (cdK_split (fun ha => ?_) (fun ha => ?_)))⟩
      rotate_left
      · have e : mErr left right (l.getD k default) = 1 := by simp (implicitDefEqProofs := false) (dsimp := false) only [mErr, ha, Bool.false_and, Bool.false_eq_true, reduceIte]
        rw [g2 (by rw [e]; decide), e]
        simp (implicitDefEqProofs := false) (dsimp := false) only [ha, nc43, erD_1, ↓cdK_true, ↓gdK_f, ↓gval_mk, ↓gvL_zero, ↓gvL_succ, ↓aw_cond, ↓aw_seq, ↓aw_ret, ↓aw_reg, ↓Qseq_n, ↓Qseq_r, ↓Qblk_r, ↓Qret_r, ↓ops_nil, ↓ops_cons, ↓ops_guard, ↓eval_tmp, ↓eval_int, ↓eval_bool, ↓put_some, ↓bK_b, ↓vK_c, ↓op_assign, ↓op_pick, ↓op_iface, ↓td_d, ↓ret_1, ↓st_tm, ↓nc43, List.getD_cons_zero, List.getD_cons_succ, List.set_cons_zero, List.set_cons_succ, Bool.and_self, Nat.reduceAdd, Nat.reduceSub, Nat.reduceMul, evK_go, reduceIte, Bool.not_false, Nat.reduceEqDiff, Nat.reduceLT, and_self]
      simp (implicitDefEqProofs := false) (dsimp := false) only [ha, within_call, ↓cdK_false, ↓cdK_not, ↓gdK_f, ↓gval_mk, ↓gvL_zero, ↓gvL_succ, ↓nthK_H, ↓nthH_zero, ↓nthH_succ, ↓aw_cond, ↓Qseq_n, ↓ops_nil, ↓ops_cons, ↓ops_guard, ↓eval_tmp, ↓eval_int, ↓eval_func, ↓put_some, ↓bK_b, ↓binE_i, ↓bi_sub, ↓in_i64, ↓ldK_p, ↓faK_p, ↓op_move, ↓op_pick, ↓op_load, ↓op_bin, ↓op_not, ↓op_fa, ↓op_call, isD_d, ↓fnK_f, ↓call_H, ↓callK_H, ↓allT_nil, ↓allT_cons, ↓td_d, ↓st_tm, ↓vcells_s, ↓ty3, ↓fd28_1, List.getD_cons_zero, List.getD_cons_succ, List.set_cons_zero, List.set_cons_succ, List.append_nil, List.map_cons, List.map_nil, List.all_cons, List.all_nil, Bool.true_and, Bool.and_self, Bool.true_or, Nat.reduceAdd, Nat.reduceSub, Nat.reduceMul, Nat.zero_add, evK_go, reduceIte, Bool.not_true, Nat.reduceEqDiff, Nat.reduceLT, and_self, true_and, Int.zero_add]
      refine ⟨by omega, OrH.l (OrH.l (cdK_split (fun hb => ?_) (fun hb => ?_)))⟩
      · have e : mErr left right (l.getD k default) = 0 := by simp (implicitDefEqProofs := false) (dsimp := false) only [mErr, ha, hb, Bool.and_self, reduceIte]
        simp (implicitDefEqProofs := false) (dsimp := false) only [hb, ↓aw_skip, ↓aw_reg, ↓Qseq_n, ↓Qblk_n, ↓ops_nil, ↓ops_cons, ↓eval_tmp, ↓eval_int, ↓put_some, ↓binE_i, ↓bi_add, ↓in_i64, ↓op_move, ↓op_bin, List.getD_cons_zero, List.getD_cons_succ, List.set_cons_zero, List.set_cons_succ, Nat.reduceAdd, Nat.reduceSub, Nat.reduceMul, evK_go, reduceIte, Bool.not_true, Nat.reduceEqDiff, Nat.reduceLT]
        refine ⟨by omega, k + 1, ⟨by omega, g1 e⟩, by omega, ?_⟩
        refine Wkn.of [] [] ?_; simp (implicitDefEqProofs := false) (dsimp := false) only [List.set_cons_zero, List.set_cons_succ, Bool.and_self, Nat.reduceAdd, Nat.reduceSub, Nat.reduceMul, List.replicate, evK_go, reduceIte, Nat.reduceEqDiff, Nat.reduceLT, and_self, List.foldl_cons, List.foldl_nil, Int.cast_ofNat_Int, Int.natCast_add, slots, wkL_nil, wkL_cons, wkB_nil, wkR_nil, wkV_j, wkV_d, frz_d, reduceCtorEq]
      · have e : mErr left right (l.getD k default) = 1 := by simp (implicitDefEqProofs := false) (dsimp := false) only [mErr, hb, Bool.and_false, Bool.false_eq_true, reduceIte]
        rw [g2 (by rw [e]; decide), e]
        simp (implicitDefEqProofs := false) (dsimp := false) only [hb, nc43, erD_1, ↓aw_seq, ↓aw_ret, ↓aw_reg, ↓Qseq_n, ↓Qseq_r, ↓Qblk_r, ↓Qret_r, ↓ops_nil, ↓ops_cons, ↓eval_tmp, ↓eval_int, ↓put_some, ↓vK_c, ↓op_assign, ↓op_iface, ↓td_d, ↓ret_1, ↓nc43, List.getD_cons_zero, List.getD_cons_succ, List.set_cons_zero, List.set_cons_succ, Bool.and_self, Nat.reduceAdd, Nat.reduceSub, Nat.reduceMul, evK_go, reduceIte, Bool.not_false, Nat.reduceEqDiff, Nat.reduceLT, and_self]
    · obtain rfl : k = l.length := by omega
      rw [List.take_length] at h2
      rw [h2]
      simp (implicitDefEqProofs := false) (dsimp := false) only [erD_0, eval_nilI, ↓aw_seq, ↓aw_exit, ↓aw_ret, ↓aw_reg, ↓Qseq_n, ↓Qseq_x, ↓Qblk_x, ↓Qret_r, ↓ops_nil, ↓ops_cons, ↓eval_tmp, ↓put_some, ↓op_assign, ↓td_d, ↓ret_1, List.getD_cons_zero, List.getD_cons_succ, List.set_cons_zero, List.set_cons_succ, Nat.reduceAdd, Nat.reduceSub, Nat.reduceMul, evK_go, reduceIte, decide_false, Nat.reduceEqDiff, Nat.reduceLT, Nat.lt_irrefl]
theorem mcheck_call (left right : Int) (l : List (Int × Int)) (pure : Bool) (σ : St) (dst : Option Tmp) (K : St → Prop) : CallH Try.prog 28 [I .i64 left, I .i64 right, .l (l.map lnD)] pure σ dst (.mk : Hid K) = OrH ((l.length < 2 ^ 62) ∧ (pure || D.flat (erD (mchk left right l))) = true ∧ evK (σ.put dst (.d (erD (mchk left right l)))) (.mk : Hid K)) (.mk : Hid (CallH Try.prog 28 [I .i64 left, I .i64 right, .l (l.map lnD)] pure σ dst (.mk : Hid K))) := CallH.eq (mcheck_spec left right l) pure σ dst K
/-- What two sides without fault are. -/
structure MOk (left right : Int) (l : List (Int × Int)) : Prop where
  l0 : left = (left.toNat : Int)
  r0 : right = (right.toNat : Int)
  lhi : left.toNat ≤ 6
  rhi : right.toNat ≤ 6
  len : l.length ≤ 24
  rng : ∀ p ∈ l, 0 ≤ p.1 ∧ 0 ≤ p.2
  sides : Sides left.toNat right.toNat (natL l)
theorem mchk_iff {left right : Int} {l : List (Int × Int)} : mchk left right l = 0 ↔ ((0 ≤ left ∧ left ≤ 6) ∧ 0 ≤ right ∧ right ≤ 6) ∧ l.length ≤ 24 ∧ ∀ p ∈ l, (0 ≤ p.1 ∧ p.1 ≤ left - 1) ∧ 0 ≤ p.2 ∧ p.2 ≤ right - 1 := by
  have hm : ∀ p, mErr left right p = 0 ↔ (0 ≤ p.1 ∧ p.1 ≤ left - 1) ∧ 0 ≤ p.2 ∧ p.2 ≤ right - 1 := fun p => by
    unfold mErr
    rw [← inB_iff, ← inB_iff, ← Bool.and_eq_true]
    split
    · rename_i h; exact ⟨fun _ => h, fun _ => rfl⟩
    · rename_i h; exact ⟨(fun h' => by cases h'), fun h' => absurd h' h⟩
  unfold mchk
  rw [← inB_iff, ← inB_iff, ← Bool.and_eq_true]
  split
  · rename_i h
    constructor
    · intro h; cases h
    · intro h'; rw [h] at h'; exact absurd h'.1 (by decide)
  · rename_i h
    have h : (inB left 0 6 && inB right 0 6) = true := by simpa using h
    split
    · constructor
      · intro h; cases h
      · intro h; omega
    · rw [firstErr_iff]
      constructor
      · intro h'; exact ⟨h, by omega, fun p hp => (hm p).1 (h' p hp)⟩
      · intro h' p hp; exact (hm p).2 (h'.2.2 p hp)
theorem mchk_ok {left right : Int} {l : List (Int × Int)} (h : mchk left right l = 0) : MOk left right l := by
  rw [mchk_iff] at h
  refine ⟨by omega, by omega, by omega, by omega, h.2.1, fun p hp => ⟨(h.2.2 p hp).1.1, (h.2.2 p hp).2.1⟩, fun p hp => ?_⟩
  obtain ⟨q, hq, rfl⟩ := List.mem_map.1 hp
  have := h.2.2 q hq
  simp (implicitDefEqProofs := false) (dsimp := false) only [natP]; omega
theorem MOk.pr {left right : Int} {l : List (Int × Int)} (h : MOk left right l) : left.toNat ≤ 8 ∧ right.toNat ≤ 8 ∧ (natL l).length < 2 ^ 62 ∧ Sides left.toNat right.toNat (natL l) := ⟨by have := h.lhi; omega, by have := h.rhi; omega, by rw [natL_len]; have := h.len; omega, h.sides⟩
def mostR (left right : Int) (l : List (Int × Int)) : Nat := if mchk left right l = 0 then mostK (kuhn left.toNat right.toNat (natL l)) else 0
def cntP (s : List Int) : Nat := s.countP fun x => decide (0 ≤ x)
theorem cntP_succ {s : List Int} {k : Nat} (h : k < s.length) : cntP (s.take (k + 1)) = cntP (s.take k) + if 0 ≤ s.getD k default then 1 else 0 := by
  unfold cntP
  rw [take_succ_getD h, List.countP_append]
  simp [List.countP_cons]
theorem cntP_most (s : List Int) : cntP s = mostK s := by
  unfold cntP mostK metR
  have e : s = (List.range s.length).map fun j => s.getD j default := by
    refine List.ext_getElem (by simp) fun i h1 h2 => ?_
    simp (implicitDefEqProofs := false) (dsimp := false) only [List.getElem_map, List.getElem_range]
    rw [List.getD_eq_getElem?_getD, List.getElem?_eq_getElem h1]; rfl
  conv => lhs; rw [e]
  rw [List.countP_map, List.countP_eq_length_filter]; rfl
theorem cntP_le (s : List Int) : cntP s ≤ s.length := List.countP_le_length
theorem most_spec (left right : Int) (l : List (Int × Int)) (hpre : l.length < 2 ^ 62) : FnD Try.prog 12 [I .i64 left, I .i64 right, .l (l.map lnD)] (.t [I .i64 (mostR left right l : Nat), erD (mchk left right l)]) := by
  refine FnD.go Try.func12 rfl rfl Try.results12 Try.ntmps12 ?_
  simp (implicitDefEqProofs := false) (dsimp := false) only [↓aw_seq, ↓aw_reg, ↓Qseq_n, ↓ops_nil, ↓ops_cons, ↓eval_tmp, ↓eval_int, ↓eval_func, ↓put_some, ↓op_move, ↓op_assign, ↓op_call, isD_d, ↓fnK_f, ↓call_H, ↓callK_H, ↓allT_nil, ↓allT_cons, ↓td_d, List.getD_cons_zero, List.getD_cons_succ, List.set_cons_zero, List.set_cons_succ, List.cons_append, List.nil_append, List.append_nil, List.map_cons, List.map_nil, List.length_cons, List.length_nil, List.all_cons, List.all_nil, Bool.and_self, Nat.reduceAdd, Nat.reduceSub, Nat.reduceMul, Nat.zero_add, List.replicate, evK_go, reduceIte, Nat.reduceEqDiff, Nat.reduceLT, and_self, Int.zero_add]
  simp (implicitDefEqProofs := false) (dsimp := false) only [mcheck_call, eval_nilI, ↓er_neq, er_flat, ↓cdK_not, ↓aw_cond, ↓aw_seq, ↓aw_reg, ↓Qseq_n, ↓ops_nil, ↓ops_cons, ↓eval_tmp, ↓put_some, ↓bK_b, ↓op_move, ↓op_assign, ↓op_bin, List.getD_cons_zero, List.getD_cons_succ, List.set_cons_zero, List.set_cons_succ, Bool.true_and, Bool.or_true, Nat.reduceAdd, Nat.reduceSub, Nat.reduceMul, evK_go, reduceIte, Nat.reduceEqDiff, Nat.reduceLT, true_and]
  refine OrH.l (OrH.l ⟨hpre, ?_⟩)
  refine cdK_dec (fun hc => ?_) (fun hc => ?_)
  rotate_left
  · simp (implicitDefEqProofs := false) (dsimp := false) only [mostR, hc, ↓aw_seq, ↓aw_ret, ↓aw_reg, ↓Qseq_n, ↓Qseq_r, ↓Qret_r, ↓ops_nil, ↓ops_cons, ↓eval_tmp, ↓eval_int, ↓put_some, ↓op_move, ↓op_assign, ↓td_d, ↓ret_2, List.getD_cons_zero, List.getD_cons_succ, List.set_cons_zero, List.set_cons_succ, Nat.reduceAdd, Nat.reduceSub, Nat.reduceMul, evK_go, reduceIte, decide_false, Bool.not_false, Nat.reduceEqDiff, Nat.reduceLT, Int.cast_ofNat_Int]
  have ok := mchk_ok hc
  rw [show mostR left right l = mostK (kuhn left.toNat right.toNat (natL l)) from if_pos hc, lnD_nat ok.rng, hc]
  have hpr := ok.pr
  have el := ok.l0
  have er := ok.r0
  have hkl : (kuhn left.toNat right.toNat (natL l)).length = right.toNat := (kuhn_end ok.sides (by have := ok.rhi; omega)).ok.len
  have hr8 := ok.rhi
  clear ok hc hpre
  generalize left.toNat = a at *
  generalize right.toNat = b at *
  subst el er
  generalize natL l = L at *
  simp (implicitDefEqProofs := false) (dsimp := false) only [pairs_callD, hpr, ↓aw_seq, ↓aw_block, ↓aw_skip, ↓aw_loop, ↓aw_reg, ↓Qseq_n, ↓ops_nil, ↓ops_cons, ↓eval_tmp, ↓eval_int, ↓eval_func, ↓put_some, ↓lenK_l, ↓op_move, ↓op_assign, ↓op_len, ↓op_call, isD_d, ↓fnK_f, ↓call_H, ↓callK_H, ↓allT_nil, ↓allT_cons, ↓td_d, ↓sl29, List.getD_cons_zero, List.getD_cons_succ, List.set_cons_zero, List.set_cons_succ, List.append_nil, List.length_map, List.all_cons, List.all_nil, Bool.true_and, Bool.and_self, Bool.true_or, Nat.reduceAdd, Nat.reduceSub, Nat.reduceMul, evK_go, reduceIte, decide_true, Bool.not_true, Nat.reduceEqDiff, Nat.reduceLT, and_self, true_and]
  (repeat refine OrH.l ?_)
  rw [← cntP_most]
  generalize kuhn a b L = H at hkl ⊢
  simp (implicitDefEqProofs := false) (dsimp := false) only [hkl]
  refine loopW (fun k : Nat => { tm := slots 34 [(9, .d (I .i64 (cntP (H.take k) : Nat))), (22, .d (.l (H.map (I .i64)))), (23, .d (I .i64 (b : Int))), (24, .d (I .i64 k))], bx := [], rw := [] })
    (fun k => k ≤ b) (fun k => b - k) 0 (by simp) ?_ ?_
  · refine Wkn.of [] [] ?_; simp (implicitDefEqProofs := false) (dsimp := false) only [cntP, List.countP_nil, List.set_cons_zero, List.set_cons_succ, Bool.and_self, Nat.reduceAdd, Nat.reduceSub, Nat.reduceMul, List.replicate, evK_go, reduceIte, Nat.reduceEqDiff, Nat.reduceLT, and_self, List.take_zero, List.foldl_cons, List.foldl_nil, Int.cast_ofNat_Int, slots, wkL_nil, wkL_cons, wkB_nil, wkR_nil, wkV_j, wkV_d, frz_d, reduceCtorEq]
  · intro k hk
    simp (implicitDefEqProofs := false) (dsimp := false) only [slots, ↓aw_cond, ↓aw_seq, ↓aw_reg, ↓Qseq_n, ↓ops_nil, ↓ops_cons, ↓eval_tmp, ↓put_some, ↓bK_b, ↓binE_i, ↓bi_lss, ↓op_bin, List.getD_cons_zero, List.getD_cons_succ, List.set_cons_zero, List.set_cons_succ, Nat.reduceAdd, Nat.reduceSub, Nat.reduceMul, List.replicate, evK_go, reduceIte, Nat.reduceEqDiff, Nat.reduceLT, List.foldl_cons, List.foldl_nil, Int.ofNat_lt]
    have hm := cntP_le (H.take k)
    rw [List.length_take] at hm
    refine cdK_dec (fun h => ?_) (fun h => ?_)
    · have hkH : k < H.length := by omega
      have hs := cntP_succ hkH
      simp (implicitDefEqProofs := false) (dsimp := false) only [hkH, ↓atK_H, ↓atH_map, ↓aw_cond, ↓aw_seq, ↓aw_block, ↓aw_skip, ↓aw_reg, ↓Qseq_n, ↓ops_nil, ↓ops_cons, ↓eval_tmp, ↓eval_int, ↓put_some, ↓bK_b, ↓iK_i, ↓binE_i, ↓bi_geq, ↓ldK_q, ↓iaK_l, ↓op_move, ↓op_assign, ↓op_load, ↓op_bin, ↓op_ia, ↓cells_c, ↓hd_cons, ↓ty3, ↓sl29, List.getD_cons_zero, List.getD_cons_succ, List.set_cons_zero, List.set_cons_succ, List.length_cons, List.length_nil, Bool.true_and, Nat.reduceAdd, Nat.reduceSub, Nat.reduceMul, Nat.zero_add, Int.toNat_natCast, evK_go, reduceIte, Nat.reduceEqDiff, Nat.reduceLT, true_and, Int.zero_add, Int.natCast_nonneg]
      refine cdK_dec (fun h1 => ?_) (fun h1 => ?_)
      · rw [if_pos h1] at hs
        simp (implicitDefEqProofs := false) (dsimp := false) only [↓aw_reg, ↓Qseq_n, ↓Qblk_n, ↓ops_nil, ↓ops_cons, ↓eval_tmp, ↓eval_int, ↓put_some, ↓binE_i, ↓bi_add, ↓in_i64, ↓op_move, ↓op_assign, ↓op_bin, List.getD_cons_zero, List.getD_cons_succ, List.set_cons_zero, List.set_cons_succ, Nat.reduceAdd, Nat.reduceSub, Nat.reduceMul, evK_go, reduceIte, Nat.reduceEqDiff, Nat.reduceLT]
        refine ⟨by omega, by omega, k + 1, by omega, by omega, ?_⟩
        refine Wkn.of [] [] ?_; simp (implicitDefEqProofs := false) (dsimp := false) only [hs, List.set_cons_zero, List.set_cons_succ, Bool.and_self, Nat.reduceAdd, Nat.reduceSub, Nat.reduceMul, List.replicate, evK_go, reduceIte, Nat.reduceEqDiff, Nat.reduceLT, and_self, List.foldl_cons, List.foldl_nil, Int.cast_ofNat_Int, Int.natCast_add, slots, wkL_nil, wkL_cons, wkB_nil, wkR_nil, wkV_j, wkV_d, frz_d, reduceCtorEq]
      · rw [if_neg h1] at hs
        simp (implicitDefEqProofs := false) (dsimp := false) only [↓aw_skip, ↓aw_reg, ↓Qseq_n, ↓Qblk_n, ↓ops_nil, ↓ops_cons, ↓eval_tmp, ↓eval_int, ↓put_some, ↓binE_i, ↓bi_add, ↓in_i64, ↓op_move, ↓op_bin, List.getD_cons_zero, List.getD_cons_succ, List.set_cons_zero, List.set_cons_succ, Nat.reduceAdd, Nat.reduceSub, Nat.reduceMul, evK_go, reduceIte, Nat.reduceEqDiff, Nat.reduceLT]
        refine ⟨by omega, k + 1, by omega, by omega, ?_⟩
        refine Wkn.of [] [] ?_; simp (implicitDefEqProofs := false) (dsimp := false) only [hs, List.set_cons_zero, List.set_cons_succ, Bool.and_self, Nat.reduceAdd, Nat.reduceSub, Nat.reduceMul, Nat.add_zero, List.replicate, evK_go, reduceIte, Nat.reduceEqDiff, Nat.reduceLT, and_self, List.foldl_cons, List.foldl_nil, Int.cast_ofNat_Int, Int.natCast_add, slots, wkL_nil, wkL_cons, wkB_nil, wkR_nil, wkV_j, wkV_d, frz_d, reduceCtorEq]
    · obtain rfl : k = b := by omega
      rw [List.take_of_length_le (by omega)]
      simp (implicitDefEqProofs := false) (dsimp := false) only [erD_0, eval_nilI, ↓aw_seq, ↓aw_exit, ↓aw_ret, ↓aw_reg, ↓Qseq_n, ↓Qseq_x, ↓Qblk_x, ↓Qret_r, ↓ops_nil, ↓ops_cons, ↓eval_tmp, ↓put_some, ↓op_move, ↓op_assign, ↓td_d, ↓ret_2, List.getD_cons_zero, List.getD_cons_succ, List.set_cons_zero, List.set_cons_succ, Nat.reduceAdd, Nat.reduceSub, Nat.reduceMul, evK_go, reduceIte, decide_false, Nat.reduceEqDiff, Nat.reduceLT, Nat.lt_irrefl]
theorem most_call (left right : Int) (l : List (Int × Int)) (pure : Bool) (σ : St) (dst : Option Tmp) (K : St → Prop) : CallH Try.prog 12 [I .i64 left, I .i64 right, .l (l.map lnD)] pure σ dst (.mk : Hid K) = OrH ((l.length < 2 ^ 62) ∧ (pure || D.flat (.t [I .i64 (mostR left right l : Nat), erD (mchk left right l)])) = true ∧ evK (σ.put dst (.d (.t [I .i64 (mostR left right l : Nat), erD (mchk left right l)]))) (.mk : Hid K)) (.mk : Hid (CallH Try.prog 12 [I .i64 left, I .i64 right, .l (l.map lnD)] pure σ dst (.mk : Hid K))) := CallH.eq (most_spec left right l) pure σ dst K
def covA (left right : Int) (l : List (Int × Int)) : List Nat := if mchk left right l = 0 then coverA left.toNat right.toNat (natL l) else []
def covB (left right : Int) (l : List (Int × Int)) : List Nat := if mchk left right l = 0 then coverB left.toNat right.toNat (natL l) else []
def met0K (left : Nat) (has : List Int) (k : Nat) : Nat := (has.take k).foldl (fun m h => if h < 0 then m else dif m (2 ^ h.toNat)) (2 ^ left - 1)
structure RC where
  met : Nat
  over : Nat
  pre : List Nat
  q : List Nat
structure RM where
  m : Nat
  s : CS
  pre : List Nat
def mfL : List (Int × Int) := [(0, 0), (1, 0)]
end Go.Proofs

namespace Go.Proofs
open Go.Aw
set_option linter.unusedSimpArgs false
set_option maxRecDepth 10000
theorem t_flat (n e : Int) : D.flat (.t [I .i64 n, erD e]) = true := by unfold erD; split <;> rfl
theorem most_mn {left right : Int} {l : List (Int × Int)} (h : mchk left right l = 0) : MN (natL l) (mostR left right l) := by
  have ok := mchk_ok h
  rw [show mostR left right l = mostK (kuhn left.toNat right.toNat (natL l)) from if_pos h]
  exact most_MN ok.sides (by have := ok.lhi; omega) (by have := ok.rhi; omega)
end Go.Proofs

namespace Go.Proofs
open Go.Aw
set_option linter.unusedSimpArgs false
set_option maxRecDepth 10000
theorem topH {n : Int} {l : List (Int × Int)} (hc : chk n l = 0) : (halfE n l = 0 ∧ colI n l ≤ 2 ∧ oddR n l = 0 ∧ halfR n l = halfL n.toNat (natL l) ∧ halfOk n.toNat (natL l) = true) ∨ (halfE n l = 5 ∧ 2 < colI n l ∧ oddR n l ≠ 0) := by
  have ok := chk_ok hc
  have h8 := ok.hi
  have hlo := ok.lo
  have hcol : colI n l = colN (outS n.toNat (symL (natL l))) n.toNat := if_pos hc
  have hodd : oddR n l = oddN n.toNat (outS n.toNat (symL (natL l))) := if_pos hc
  have hE : halfE n l = if halfOk n.toNat (natL l) = true then 0 else 5 := if_pos hc
  have hR : halfR n l = if halfOk n.toNat (natL l) = true then halfL n.toNat (natL l) else [] := if_pos hc
  obtain ⟨_, _, c3, c4⟩ := colN_spec (outS n.toNat (symL (natL l))) hlo
  have h2 := can_two (by omega) ok.good (fun a ha => ok.ne _ ha rfl) c3 c4
  have h3 := odd_half (n := n.toNat) (by omega) ok.good
  rw [← hcol] at h2
  rw [← hodd] at h3
  by_cases hk : halfOk n.toNat (natL l) = true
  · left
    rw [if_pos hk] at hE hR
    exact ⟨hE, h2.2 hk, h3.2 hk, hR, hk⟩
  · right
    rw [if_neg hk] at hE
    exact ⟨hE, by have := mt h2.1 hk; omega, fun h => hk (h3.1 h)⟩
def sidI (P : List Int) (q : Int × Int) : Int × Int := if P.getD q.1.toNat default = 0 then q else (q.2, q.1)
theorem sides_nat (P : List Int) (l : List (Int × Int)) : natL (l.map (sidI P)) = sideL (fun x => !decide (P.getD x default = 0)) (natL l) := by
  unfold natL sideL
  rw [List.map_map, List.map_map]
  refine List.map_congr_left fun q _ => ?_
  show natP (sidI P q) = if (!decide (P.getD (natP q).1 default = 0)) = true then ((natP q).2, (natP q).1) else natP q
  unfold sidI
  by_cases h : P.getD q.1.toNat default = 0
  · have h' : P.getD (natP q).1 default = 0 := h
    rw [if_pos h, h', if_neg (by decide)]
  · have h' : ¬ P.getD (natP q).1 default = 0 := h
    rw [if_neg h, if_pos (by simpa using h')]; rfl
theorem pairs_w {n : Int} {l : List (Int × Int)} (hc : chk n l = 0) (hk : halfOk n.toNat (natL l) = true) (h6 : n ≤ 6) : mchk n n (l.map (sidI (halfL n.toNat (natL l)))) = 0 ∧ mostR n n (l.map (sidI (halfL n.toNat (natL l)))) + apI n l = n.toNat := by
  have ok := chk_ok hc
  have h8 := ok.hi
  have hlo := ok.lo
  have e0 := ok.n0
  have hg := ok.good
  have hm : mchk n n (l.map (sidI (halfL n.toNat (natL l)))) = 0 := by
    rw [mchk_iff]
    refine ⟨⟨⟨by omega, h6⟩, by omega, h6⟩, by rw [List.length_map]; exact ok.len, fun p hp => ?_⟩
    obtain ⟨q, hq, rfl⟩ := List.mem_map.1 hp
    have h1 := ok.rng q hq
    have h2 := hg (natP q) (List.mem_map.2 ⟨q, hq, rfl⟩)
    have h3 : q.1.toNat < n.toNat ∧ q.2.toNat < n.toNat := h2
    unfold sidI
    split
    · exact ⟨⟨h1.1, by omega⟩, h1.2, by omega⟩
    · exact ⟨⟨h1.2, by show q.2 ≤ n - 1; omega⟩, h1.1, by show q.1 ≤ n - 1; omega⟩
  refine ⟨hm, ?_⟩
  have hmn := most_mn hm
  rw [sides_nat] at hmn
  have hcc : ∀ a b, (a, b) ∈ natL l → (!decide ((halfL n.toNat (natL l)).getD a default = 0)) ≠ !decide ((halfL n.toNat (natL l)).getD b default = 0) := fun a b hab => by
    have h1 := half_part hk hab
    have h2 := hg _ hab
    obtain ⟨x, hx, _⟩ := half_get (n := n.toNat) (l := natL l) (by omega) hg h2.1
    obtain ⟨y, hy, _⟩ := half_get (n := n.toNat) (l := natL l) (by omega) hg h2.2
    simp only at hx hy
    rw [hx, hy] at h1 ⊢
    intro e
    have e' : ((x : Int) % 2 = 0) ↔ ((y : Int) % 2 = 0) := by
      by_cases hx0 : (x : Int) % 2 = 0 <;> by_cases hy0 : (y : Int) % 2 = 0 <;> simp [hx0, hy0] at e ⊢
    omega
  have hw := wh_pairs (n := n.toNat) (by omega) hg hcc hmn (nb := apN n.toNat (outS n.toNat (symL (natL l)))) (fun i j => apN_bit i j)
  have ha : apI n l = whF (apN n.toNat (outS n.toNat (symL (natL l)))) (n.toNat + 1) 0 (2 ^ n.toNat - 1) 0 0 := if_pos hc
  rw [ha]
  omega
theorem chf_spec  : FnD Try.prog 9 [I .i64 2, .l [.s [I .i64 0, I .i64 1]]] (.t [I .i64 2, erD 0]) := by
  have h := cleast_spec 2 [(0, 1)] (by decide)
  rw [show colI 2 [(0, 1)] = 2 by decide +kernel, show chk 2 [(0, 1)] = 0 by decide +kernel] at h
  exact h
theorem chf_call  (pure : Bool) (σ : St) (dst : Option Tmp) (K : St → Prop) : CallH Try.prog 9 [I .i64 2, .l [.s [I .i64 0, I .i64 1]]] pure σ dst (.mk : Hid K) = OrH ((pure || D.flat (.t [I .i64 2, erD 0])) = true ∧ evK (σ.put dst (.d (.t [I .i64 2, erD 0]))) (.mk : Hid K)) (.mk : Hid (CallH Try.prog 9 [I .i64 2, .l [.s [I .i64 0, I .i64 1]]] pure σ dst (.mk : Hid K))) := CallH.eq0 (chf_spec ) pure σ dst K
set_option maxHeartbeats 2000000 in
theorem lTopHalves_spec (n : Int) (l : List (Int × Int)) (_hn : -9223372036854775808 ≤ n ∧ n ≤ 9223372036854775807) (hl : l.length < 2 ^ 43) : FnD Try.prog 4 [I .i64 n, .l (l.map lnD)] (Bo true) := by
  have hl62 : l.length < 2 ^ 62 := by omega
  have h00 : decide ((0 : Int) = 0) = true := by decide
  have h22 : decide ((2 : Int) = 2) = true := by decide
  refine FnD.go Try.func4 rfl rfl Try.results4 Try.ntmps4 ?_
  simp (implicitDefEqProofs := false) (dsimp := false) only [↓aw_seq, ↓aw_reg, ↓Qseq_n, ↓ops_nil, ↓ops_cons, ↓eval_tmp, ↓eval_bool, ↓eval_func, ↓put_some, ↓op_move, ↓op_assign, ↓op_call, isD_d, ↓fnK_f, ↓call_H, ↓callK_H, ↓allT_nil, ↓allT_cons, ↓td_d, List.getD_cons_zero, List.getD_cons_succ, List.set_cons_zero, List.set_cons_succ, List.cons_append, List.nil_append, List.append_nil, List.map_cons, List.map_nil, List.length_cons, List.length_nil, List.all_cons, List.all_nil, Bool.and_self, Nat.reduceAdd, Nat.reduceSub, Nat.reduceMul, Nat.zero_add, List.replicate, evK_go, reduceIte, Nat.reduceEqDiff, Nat.reduceLT, and_self, Int.zero_add]
  simp (implicitDefEqProofs := false) (dsimp := false) only [cleast_call, chf_call, hpart_call, hodd_call, hl62, eval_nilI, ↓er_neq, ↓cdK_false, ↓cdK_not, ↓gdK_f, ↓gval_mk, ↓gvL_zero, ↓gvL_succ, ↓nthK_H, ↓nthH_zero, ↓nthH_succ, ↓aw_cond, ↓aw_seq, ↓aw_skip, ↓aw_reg, ↓Qseq_n, ↓ops_nil, ↓ops_cons, ↓ops_guard, ↓eval_tmp, ↓eval_int, ↓eval_func, ↓put_some, ↓bK_b, ↓dK_d, ↓tK_t, ↓binE_i, ↓bi_neq, ↓op_move, ↓op_assign, ↓op_pick, ↓op_bin, ↓op_extract, ↓op_build, ↓op_call, isD_d, ↓fnK_f, ↓call_H, ↓callK_H, ↓allT_nil, ↓allT_cons, ↓allD_nil, ↓allD_cons, ↓td_d, ↓st_tm, ↓cells_c, ↓cells_s, ↓one_i, ↓bs_, ↓op_bs, ↓bsL_f, ↓stored_mk, ↓sl_nil, ↓sl_cons, ↓sT_move, ↓sT_assign, ↓sT_extract, ↓sT_build, ↓sT_bs, ↓sT_call, ↓vsz_agg, ↓inO_1, ↓fm_nil, ↓fm_cons, ↓sl22, ↓ty28, ↓zb28, ↓bd28, List.getD_cons_zero, List.getD_cons_succ, List.set_cons_zero, List.set_cons_succ, List.cons_append, List.nil_append, List.append_nil, List.map_cons, List.map_nil, List.length_cons, List.length_nil, List.all_cons, List.all_nil, Bool.true_and, Bool.and_self, Bool.true_or, Bool.or_false, Nat.reduceAdd, Nat.reduceSub, Nat.reduceMul, Nat.zero_add, evK_go, reduceIte, decide_true, Bool.not_true, Nat.reduceEqDiff, Nat.reduceLT, and_self, true_and, Int.zero_add]
  (repeat refine OrH.l ?_)
  refine ⟨⟨rfl, by decide⟩, ?_⟩
  (repeat refine OrH.l ?_)
  refine cdK_dec (fun hc => ?_) (fun hc => ?_)
  rotate_left
  · have e1 : colI n l = 0 := if_neg hc
    have e2 : halfE n l = chk n l := if_neg hc
    have q1 := decide_eq_false hc
    have q2 : ((0 : Nat) : Int) = 0 := rfl
    simp (implicitDefEqProofs := false) (dsimp := false) only [e1, e2, q1, q2, eval_nilI, ↓er_neq, ↓cdK_true, ↓gdK_t, ↓gval_mk, ↓gvL_zero, ↓gvL_succ, ↓aw_seq, ↓aw_ret, ↓aw_reg, ↓Qseq_n, ↓Qseq_r, ↓Qret_r, ↓ops_nil, ↓ops_cons, ↓ops_guard, ↓eval_tmp, ↓eval_int, ↓put_some, ↓bK_b, ↓binE_i, ↓bi_eql, ↓op_move, ↓op_assign, ↓op_pick, ↓op_bin, ↓td_d, ↓ret_1, ↓st_tm, List.getD_cons_zero, List.getD_cons_succ, List.set_cons_zero, List.set_cons_succ, Nat.reduceAdd, Nat.reduceSub, Nat.reduceMul, evK_go, reduceIte, decide_true, Bool.not_false, Nat.reduceEqDiff, Nat.reduceLT]
    skip
  have ok := chk_ok hc
  have e0 := ok.n0
  have hlo := ok.lo
  have h8 := ok.hi
  rcases topH hc with ⟨t1, t2, t3, t4, t5⟩ | ⟨t1, t2, t3⟩
  rotate_left
  · have q1 : decide (((colI n l : Nat) : Int) ≤ 2) = false := decide_eq_false (by omega)
    have q2 : decide (((oddR n l : Nat) : Int) = 0) = false := decide_eq_false (by omega)
    have q3 : decide ((5 : Int) = 0) = false := by decide
    have q4 : (false == false) = true := rfl
    simp (implicitDefEqProofs := false) (dsimp := false) only [hc, t1, q1, q2, q3, q4, eval_nilI, ↓er_neq, ↓er_eql, ↓bo_neq, ↓cdK_true, ↓cdK_false, ↓gdK_f, ↓gval_mk, ↓gvL_zero, ↓gvL_succ, ↓aw_cond, ↓aw_seq, ↓aw_ret, ↓aw_skip, ↓aw_reg, ↓Qseq_n, ↓Qseq_r, ↓Qret_r, ↓ops_nil, ↓ops_cons, ↓ops_guard, ↓eval_tmp, ↓eval_int, ↓eval_bool, ↓put_some, ↓bK_b, ↓binE_i, ↓bi_eql, ↓bi_leq, ↓op_move, ↓op_assign, ↓op_pick, ↓op_bin, ↓td_d, ↓ret_1, ↓st_tm, List.getD_cons_zero, List.getD_cons_succ, List.set_cons_zero, List.set_cons_succ, Nat.reduceAdd, Nat.reduceSub, Nat.reduceMul, evK_go, reduceIte, decide_true, Bool.not_true, Bool.not_false, Nat.reduceEqDiff, Nat.reduceLT]
  have hpw := fun h => pairs_w hc t5 h
  have q1 : decide (((colI n l : Nat) : Int) ≤ 2) = true := decide_eq_true (by omega)
  have q2 : decide (((oddR n l : Nat) : Int) = 0) = true := decide_eq_true (by omega)
  have q4 : (true == true) = true := rfl
  have hPl : (halfL n.toNat (natL l)).length = n.toNat := by simp [halfL]
  have q5 : decide (((n.toNat : Nat) : Int) = n) = true := decide_eq_true e0.symm
  by_cases h6 : 6 < n
  · have q6 : decide ((6 : Int) < n) = true := decide_eq_true h6
    simp (implicitDefEqProofs := false) (dsimp := false) only [hc, t1, t4, q1, q2, q4, q5, q6, hPl, eval_nilI, ↓er_neq, ↓er_eql, ↓bo_neq, ↓cdK_true, ↓cdK_false, ↓gdK_f, ↓gval_mk, ↓gvL_zero, ↓gvL_succ, ↓aw_cond, ↓aw_seq, ↓aw_ret, ↓aw_skip, ↓aw_reg, ↓Qseq_n, ↓Qseq_r, ↓Qret_r, ↓ops_nil, ↓ops_cons, ↓ops_guard, ↓eval_tmp, ↓eval_int, ↓eval_bool, ↓put_some, ↓bK_b, ↓lenK_l, ↓binE_i, ↓bi_eql, ↓bi_leq, ↓bi_gtr, ↓op_move, ↓op_assign, ↓op_pick, ↓op_bin, ↓op_len, ↓td_d, ↓ret_1, ↓st_tm, ↓sl29, List.getD_cons_zero, List.getD_cons_succ, List.set_cons_zero, List.set_cons_succ, List.length_map, Nat.reduceAdd, Nat.reduceSub, Nat.reduceMul, evK_go, reduceIte, decide_true, Bool.not_true, Nat.reduceEqDiff, Nat.reduceLT]
    skip
  · have q6 : decide ((6 : Int) < n) = false := decide_eq_false h6
    simp (implicitDefEqProofs := false) (dsimp := false) only [hc, t1, t4, q1, q2, q4, q5, q6, hPl, eval_nilI, ↓er_neq, ↓er_eql, ↓bo_neq, ↓cdK_false, ↓gdK_f, ↓gval_mk, ↓gvL_zero, ↓gvL_succ, ↓aw_cond, ↓aw_seq, ↓aw_block, ↓aw_skip, ↓aw_loop, ↓aw_reg, ↓Qseq_n, ↓ops_nil, ↓ops_cons, ↓ops_guard, ↓eval_tmp, ↓eval_int, ↓eval_nil, ↓put_some, ↓bK_b, ↓lenK_l, ↓binE_i, ↓bi_eql, ↓bi_neq, ↓bi_leq, ↓bi_gtr, ↓op_move, ↓op_assign, ↓op_pick, ↓op_bin, ↓op_len, ↓st_tm, ↓sl29, List.getD_cons_zero, List.getD_cons_succ, List.set_cons_zero, List.set_cons_succ, List.length_map, Nat.reduceAdd, Nat.reduceSub, Nat.reduceMul, evK_go, reduceIte, decide_true, Bool.not_true, Nat.reduceEqDiff, Nat.reduceLT]
    obtain ⟨w1, w2⟩ := hpw (by omega)
    have hrng := ok.rng
    have hg := ok.good
    have hln := ok.len
    generalize halfL n.toNat (natL l) = P at *
    refine loopW (fun i : Nat => { tm := slots 159 [(0, .d (I .i64 n)), (1, .d (.l (l.map lnD))), (9, .d (.l (P.map (I .i64)))), (13, .o 0 0 i), (14, .d (I .i64 i))], bx := [], rw := [some ⟨2, ((l.take i).map (sidI P)).map lnD⟩] })
      (fun i => i ≤ l.length) (fun i => l.length - i) 0 (by simp) ?_ ?_
    · refine Wkn.of [] [none] ?_
      simp (implicitDefEqProofs := false) (dsimp := false) only [List.take_zero, ↓row_xs, List.set_cons_zero, List.set_cons_succ, List.map_nil, Bool.and_self, Nat.reduceAdd, Nat.reduceSub, Nat.reduceMul, List.replicate, evK_go, reduceIte, Nat.reduceEqDiff, Nat.reduceLT, and_self, List.take_zero, List.foldl_cons, List.foldl_nil, Int.cast_ofNat_Int, slots, wkL_nil, wkL_cons, wkB_nil, wkR_nil, wkR_new, wkV_j, wkV_d, nlK_nl, wkV_o, frz_d, oK_zn, reduceCtorEq]
    · intro i hi
      simp (implicitDefEqProofs := false) (dsimp := false) only [slots, ↓aw_cond, ↓aw_seq, ↓aw_reg, ↓Qseq_n, ↓ops_nil, ↓ops_cons, ↓eval_tmp, ↓put_some, ↓bK_b, ↓lenK_l, ↓binE_i, ↓bi_lss, ↓op_move, ↓op_bin, ↓op_len, ↓sl22, List.getD_cons_zero, List.getD_cons_succ, List.set_cons_zero, List.set_cons_succ, List.length_map, Nat.reduceAdd, Nat.reduceSub, Nat.reduceMul, List.replicate, evK_go, reduceIte, Nat.reduceEqDiff, Nat.reduceLT, List.foldl_cons, List.foldl_nil, Int.ofNat_lt]
      refine cdK_dec (fun h => ?_) (fun h => ?_)
      · have hs := take_succ_getD h
        have hri := hrng _ (getD_mem h)
        have hgi : (l.getD i default).1.toNat < n.toNat ∧ (l.getD i default).2.toNat < n.toNat := hg (natP (l.getD i default)) (List.mem_map.2 ⟨_, getD_mem h, rfl⟩)
        have g1 : (l.getD i default).1.toNat < P.length := by omega
        have g2 := hri.1
        have g3 := hri.2
        have hlt : (l.take i).length = i := by rw [List.length_take]; omega
        simp (implicitDefEqProofs := false) (dsimp := false) only [h, lnD, g1, g2, ↓atK_H, ↓atH_map, ↓aw_cond, ↓aw_seq, ↓aw_block, ↓aw_skip, ↓aw_reg, ↓Qseq_n, ↓ops_nil, ↓ops_cons, ↓eval_tmp, ↓eval_int, ↓put_some, ↓bK_b, ↓iK_i, ↓binE_i, ↓bi_eql, ↓ldK_q, ↓faK_q, ↓iaK_l, ↓op_move, ↓op_load, ↓op_bin, ↓op_fa, ↓op_ia, ↓cells_c, ↓cells_s, ↓hd_cons, ↓ty3, ↓sl22, ↓ty28, ↓fd28_0, ↓sl29, List.getD_cons_zero, List.getD_cons_succ, List.set_cons_zero, List.set_cons_succ, List.length_cons, List.length_nil, Bool.true_and, Nat.reduceAdd, Nat.reduceSub, Nat.reduceMul, Nat.zero_add, Int.toNat_natCast, evK_go, reduceIte, decide_true, Nat.reduceEqDiff, Nat.reduceLT, true_and, Int.zero_add, List.drop_zero, Int.natCast_nonneg]
        refine cdK_dec (fun h2 => ?_) (fun h2 => ?_)
        · have hS : sidI P (l.getD i default) = l.getD i default := if_pos h2
          simp (implicitDefEqProofs := false) (dsimp := false) only [h, lnD, hlt, ↓optK_some, ↓rwK_mk_, ↓atK_H, ↓atH_map, ↓aw_reg, ↓Qseq_n, ↓Qblk_n, ↓ops_nil, ↓ops_cons, ↓eval_tmp, ↓eval_int, ↓put_some, ↓iK_i, ↓dK_d, ↓binE_i, ↓bi_add, ↓in_i64, ↓ldK_q, ↓iaK_l, ↓op_move, ↓op_assign, ↓op_load, ↓op_bin, ↓op_ia, ↓op_append, ↓allD_nil, ↓allD_cons, ↓app_mk, ↓row_sz, ↓row_xs, kill_d, kill_j, kill_o, ↓cells_s, ↓one_i, ↓ap_, ↓ap_o, ↓src_l, ↓bs_, ↓op_bs, ↓bsL_f, ↓stored_mk, ↓sl_nil, ↓sl_cons, ↓sT_move, ↓sT_assign, ↓sT_load, ↓sT_ia, ↓sT_bs, ↓sT_call, ↓vsz_agg, ↓inO_1, ↓fm_nil, ↓fm_cons, ↓sl22, ↓ty28, ↓zb28, List.getD_cons_zero, List.getD_cons_succ, List.set_cons_zero, List.set_cons_succ, List.map_cons, List.map_nil, List.length_cons, List.length_nil, List.length_map, List.all_cons, List.all_nil, Bool.true_and, Bool.and_self, Bool.or_false, Nat.reduceAdd, Nat.reduceSub, Nat.reduceMul, Nat.zero_add, Int.toNat_natCast, evK_go, reduceIte, Nat.reduceEqDiff, Nat.reduceLT, and_self, true_and, Int.zero_add, List.drop_zero, List.take_succ_cons, List.take_nil, Int.natCast_nonneg]
          refine ⟨by decide, ⟨rfl, by decide⟩, rfl, ⟨fun _ => trivial, by omega, by omega⟩, by omega, i + 1, by omega, by omega, ?_⟩
          refine Wkn.of [] [some 0] ?_
          simp (implicitDefEqProofs := false) (dsimp := false) only [hs, hS, List.map_append, lnD, List.getD_cons_zero, List.set_cons_zero, List.set_cons_succ, List.map_cons, List.map_nil, Bool.and_self, Nat.reduceAdd, Nat.reduceSub, Nat.reduceMul, List.replicate, evK_go, reduceIte, Nat.reduceEqDiff, Nat.reduceLT, and_self, List.foldl_cons, List.foldl_nil, Int.cast_ofNat_Int, Int.natCast_add, slots, wkL_nil, wkL_cons, wkB_nil, wkR_nil, wkR_some, wkV_j, wkV_d, wkV_o, frz_d, oK_zs, reduceCtorEq]
        · have hS : sidI P (l.getD i default) = ((l.getD i default).2, (l.getD i default).1) := if_neg h2
          simp (implicitDefEqProofs := false) (dsimp := false) only [h, lnD, hlt, ↓optK_some, ↓rwK_mk_, ↓atK_H, ↓atH_map, ↓aw_reg, ↓aw_draw, ↓Qseq_n, ↓Qblk_n, ↓ops_nil, ↓ops_cons, ↓eval_tmp, ↓eval_int, ↓put_some, ↓iK_i, ↓dK_d, ↓ev_move, ↓ev_load, ↓ev_fa, ↓ev_ia, ↓ev_build, ↓binE_i, ↓bi_add, ↓in_i64, ↓ldK_q, ↓faK_q, ↓iaK_l, ↓op_move, ↓op_assign, ↓op_bin, ↓op_append, ↓allD_nil, ↓allD_cons, ↓draw_H, ↓h_cons, ↓ldH_t, ↓ldH_n, ↓q_bs, ↓q_move, ↓q_load, ↓q_fa, ↓q_ia, ↓q_build, ↓il_move, ↓il_load, ↓il_fa, ↓il_ia, ↓il_build, ↓il_bs, ↓il_append, ↓app_mk, ↓row_sz, ↓row_xs, kill_d, kill_j, kill_o, ↓cells_c, ↓cells_s, ↓one_i, ↓ap_, ↓ap_o, ↓src_l, ↓bs_, ↓vsz_agg, ↓inO_1, ↓fm_nil, ↓fm_cons, ↓hd_cons, ↓ty3, ↓sl22, ↓ty28, ↓zb28, ↓fd28_0, ↓fd28_1, ↓bd28, List.getD_cons_zero, List.getD_cons_succ, List.set_cons_zero, List.set_cons_succ, List.cons_append, List.nil_append, List.map_cons, List.map_nil, List.length_cons, List.length_nil, List.length_map, List.all_cons, List.all_nil, Bool.true_and, Bool.and_self, Nat.reduceAdd, Nat.reduceSub, Nat.reduceMul, Nat.zero_add, Int.toNat_natCast, evK_go, reduceIte, Nat.reduceEqDiff, Nat.reduceLT, and_self, true_and, Int.zero_add, List.drop_zero, List.drop_succ_cons, Int.natCast_nonneg]
          refine OrH.l ⟨DrawH.of follows_mixed (by kernel_rfl), ⟨rfl, by decide⟩, rfl, ⟨fun _ => trivial, by omega, by omega⟩, by omega, i + 1, by omega, by omega, ?_⟩
          refine Wkn.of [] [some 0] ?_
          simp (implicitDefEqProofs := false) (dsimp := false) only [hs, hS, List.map_append, lnD, List.getD_cons_zero, List.set_cons_zero, List.set_cons_succ, List.map_cons, List.map_nil, Bool.and_self, Nat.reduceAdd, Nat.reduceSub, Nat.reduceMul, List.replicate, evK_go, reduceIte, Nat.reduceEqDiff, Nat.reduceLT, and_self, List.foldl_cons, List.foldl_nil, Int.cast_ofNat_Int, Int.natCast_add, slots, wkL_nil, wkL_cons, wkB_nil, wkR_nil, wkR_some, wkV_j, wkV_d, wkV_o, frz_d, oK_zs, reduceCtorEq]
      · obtain rfl : i = l.length := by omega
        have e1 : List.take l.length (((l.take l.length).map (sidI P)).map lnD) = (l.map (sidI P)).map lnD := by
          rw [List.take_length]; exact List.take_of_length_le (by simp)
        simp (implicitDefEqProofs := false) (dsimp := false) only [e1, most_call, capart_call, hl62, w1, hc, eval_nilI, ↓er_eql, ↓cdK_true, ↓gdK_t, ↓gval_mk, ↓gvL_zero, ↓gvL_succ, ↓optK_some, ↓rwK_mk_, ↓nthK_H, ↓nthH_zero, ↓nthH_succ, ↓aw_seq, ↓aw_exit, ↓aw_ret, ↓aw_reg, ↓Qseq_n, ↓Qseq_x, ↓Qblk_x, ↓Qret_r, ↓ops_nil, ↓ops_cons, ↓ops_guard, ↓eval_tmp, ↓eval_func, ↓put_some, ↓bK_b, ↓tK_t, ↓binE_i, ↓bi_add, ↓bi_eql, ↓in_i64, ↓op_move, ↓op_assign, ↓op_pick, ↓op_bin, ↓op_extract, ↓op_call, isD_d, isD_o, ↓fnK_f, ↓call_H, ↓callK_H, ↓allT_nil, ↓allT_cons, ↓td_d, ↓td_o, ↓ret_1, ↓st_tm, ↓row_xs, List.getD_cons_zero, List.getD_cons_succ, List.set_cons_zero, List.set_cons_succ, List.append_nil, List.length_map, List.all_cons, List.all_nil, Bool.and_true, Bool.true_and, Bool.and_self, Bool.and_false, Bool.true_or, Bool.false_or, Nat.reduceAdd, Nat.reduceSub, Nat.reduceMul, evK_go, reduceIte, decide_true, decide_false, Nat.reduceEqDiff, Nat.reduceLT, and_self, true_and, and_true, Nat.lt_irrefl, List.drop_zero]
        refine OrH.l (OrH.l ⟨t_flat _ 0, OrH.l (OrH.l ⟨by omega, ?_⟩)⟩)
        rw [decide_eq_true (by omega)]
end Go.Proofs

namespace Go.Proofs
set_option maxRecDepth 100000
theorem cutNo : ("cut".toList == "gc".toList || "cut".toList == "spec".toList) = false := by kernel_rfl
theorem cutNo2 : ("cut".toList == "carried".toList) = false := by kernel_rfl
theorem cutStrip (T : List (List Char)) : stripLifts liftWords ("cut".toList :: T) = ([], "cut".toList :: T) := by kernel_rfl
theorem make_of {P : Program} {T : List (List Char)} (h : behindMainWord (wordsSigns P.initOrder.toList) = "cut".toList :: T) : P.make = some .cut := by
  unfold Program.make
  rw [h]
  simp (implicitDefEqProofs := false) (dsimp := false) only [cutNo, beq_self_eq_true, Bool.true_or, Bool.false_eq_true, if_false, if_true]
theorem enter_of {P : Program} {T : List (List Char)} (h : behindMainWord (wordsSigns P.initOrder.toList) = "cut".toList :: T) (h1 : P.laysLater = false) (h2 : P.bearsReflect = false) (h3 : P.doorRows = []) : P.mayEnter = true := by
  unfold Program.mayEnter
  rw [h]
  simp (implicitDefEqProofs := false) (dsimp := false) only [cutStrip, cutNo, cutNo2, h1, h2, Program.doorFits, h3, List.head?_cons, beq_self_eq_true, Bool.not_false, Bool.or_true, Bool.and_true, Bool.true_and]
  rfl
theorem final_of {P : Program} {T : List (List Char)} (h : behindMainWord (wordsSigns P.initOrder.toList) = "cut".toList :: T) : P.liftsFinal = false := by
  unfold Program.liftsFinal Program.headLifts
  rw [h]
  simp (implicitDefEqProofs := false) (dsimp := false) only [cutStrip]
  kernel_rfl
theorem cutWord : behindMainWord (wordsSigns Try.prog.initOrder.toList) = "cut".toList :: (behindMainWord (wordsSigns Try.prog.initOrder.toList)).tail := by
  have h : Try.prog.initOrder.toList = _ := String.toList_ofList
  rw [h]
  show (_ : List (List Char)) = _
  kernel_rfl
theorem pLater : Try.prog.laysLater = false := by
  unfold Program.laysLater
  rw [← Array.any_toList]
  kernel_rfl
theorem pReflect : Try.prog.bearsReflect = false := by kernel_rfl
theorem pDoor : Try.prog.doorRows = [] := by kernel_rfl
theorem pMake : Try.prog.make = some .cut := make_of cutWord
theorem pEnter : Try.prog.mayEnter = true := enter_of cutWord pLater pReflect pDoor
theorem pFinal : Try.prog.liftsFinal = false := final_of cutWord
theorem pLaid : laidOutB Try.prog = true := by kernel_rfl
theorem pRowed : mapsRowed Try.prog = true := by kernel_rfl
theorem pStops : (Try.prog.stops == []) = true := by kernel_rfl
theorem pKnobs : (Try.prog.stopKnobs == []) = true := by kernel_rfl
theorem pHeard : Try.prog.stopsHeard = true := by kernel_rfl
theorem pOwn : ownKnob Try.prog.godebug = none := by kernel_rfl
theorem andB {a b : Bool} (ha : a = true) (hb : b = true) : (a && b) = true := by rw [ha, hb]; rfl
end Go.Proofs
