/- Part W 2 of what the proof of StrongSays stands on: what the functions of the program compute. -/
import Derived.Test.YtblhpmhfhpmifaaDoorW1
import Derived.ChangeSlices
set_option linter.unusedVariables false
set_option linter.unusedSimpArgs false
namespace Go.Proofs
open Go.Aw
set_option linter.unusedSimpArgs false
set_option maxRecDepth 10000
set_option maxHeartbeats 8000000
def ffRow (n : Nat) (f : Nat → Int) : List D := (List.range n).map fun b => I .i64 (f b)
def ffRows (n m : Nat) (F : Nat → Nat → Int) : List (Option Row) := (List.range m).map fun a => some ⟨1, ffRow n (F a)⟩
def fxL (n : Nat) (vas : List Value) : List (Value × V) := (List.range vas.length).map fun a => (vas.getD a default, V.o (a + 1) 0 n)
theorem rng_getD {n i : Nat} (h : i < n) : (List.range n).getD i default = i := by
  rw [List.getD_eq_getElem?_getD, List.getElem?_range h]; rfl
theorem ffRow_len (n : Nat) (f : Nat → Int) : (ffRow n f).length = n := by simp [ffRow]
theorem ffRows_len (n m : Nat) (F : Nat → Nat → Int) : (ffRows n m F).length = m := by simp [ffRows]
theorem ffRows_get {n m a : Nat} (F : Nat → Nat → Int) (h : a < m) : (ffRows n m F).getD a none = some ⟨1, ffRow n (F a)⟩ := by
  rw [List.getD_eq_getElem?_getD]; simp [ffRows, h]
theorem last_getD {L : List (Option Row)} {a : Nat} (h : L.length = a) (x : Option Row) : (L ++ [x]).getD a none = x := by
  subst h; simp
theorem last_set {L : List (Option Row)} {a : Nat} (h : L.length = a) (x y : Option Row) : (L ++ [x]).set a y = L ++ [y] := by
  subst h; simp
theorem ffRow_set {n : Nat} (f : Nat → Int) (b : Nat) (v : Int) : (ffRow n f).set b (I .i64 v) = ffRow n (fun j => if j = b then v else f j) := by
  refine List.ext_getElem (by simp [ffRow]) fun i h1 h2 => ?_
  rw [List.getElem_set]
  simp (implicitDefEqProofs := false) (dsimp := false) only [ffRow, List.getElem_map, List.getElem_range]
  by_cases e : b = i
  · subst e; simp
  · rw [if_neg e, if_neg (fun e' => e e'.symm)]
theorem ffRows_set {n : Nat} (F : Nat → Nat → Int) {a b : Nat} (v : Int) : (ffRows n n F).set a (some ⟨1, ffRow n (fun j => if j = b then v else F a j)⟩) = ffRows n n (updF F a b v) := by
  refine List.ext_getElem (by simp [ffRows]) fun i h1 h2 => ?_
  rw [List.getElem_set]
  simp (implicitDefEqProofs := false) (dsimp := false) only [ffRows, List.getElem_map, List.getElem_range]
  by_cases e : a = i
  · subst e
    rw [if_pos rfl]
    congr 3
    funext j
    simp [updF]
  · rw [if_neg e]
    congr 3
    funext j
    unfold updF
    rw [if_neg (fun h => e h.1.symm)]
theorem fxL_mem {n : Nat} {vas : List Value} {a : Nat} (h : a < vas.length) : (vas.getD a default, V.o (a + 1) 0 n) ∈ fxL n vas := List.mem_map.2 ⟨a, List.mem_range.2 h, rfl⟩
theorem fxL_kill (n : Nat) (vas : List Value) : (fxL n vas).map (fun p => (p.1, V.kill 0 p.2)) = fxL n vas := by
  unfold fxL
  rw [List.map_map]
  refine List.map_congr_left fun a _ => ?_
  simp [V.kill]
theorem fxL_snoc (n : Nat) (vas : List Value) (v : Value) : fxL n (vas ++ [v]) = fxL n vas ++ [(v, V.o (vas.length + 1) 0 n)] := by
  unfold fxL
  rw [List.length_append, List.length_singleton, List.range_succ, List.map_append]
  congr 1
  · refine List.map_congr_left fun a ha => ?_
    have := List.mem_range.1 ha
    rw [List.getD_eq_getElem?_getD, List.getElem?_append_left this, ← List.getD_eq_getElem?_getD]
  · simp
theorem fxL_uniq {n : Nat} {vas : List Value} {a : Nat} (hnd : vas.Nodup) (h : a < vas.length) : ∀ r' o' n', (vas.getD a default, V.o r' o' n') ∈ fxL n vas → r' = a + 1 ∧ o' = 0 ∧ n' = n := by
  intro r' o' n' hm
  obtain ⟨i, hi, e⟩ := List.mem_map.1 hm
  have hi := List.mem_range.1 hi
  simp (implicitDefEqProofs := false) (dsimp := false) only [Prod.mk.injEq, V.o.injEq] at e
  obtain ⟨e1, e2, e3, e4⟩ := e
  rw [List.getD_eq_getElem?_getD, List.getD_eq_getElem?_getD, List.getElem?_eq_getElem hi, List.getElem?_eq_getElem h] at e1
  have := (List.getElem_inj hnd).1 e1
  omega
theorem fxH_L {n : Nat} {vas : List Value} (hnd : vas.Nodup) {a : Nat} (h : a < vas.length) {F : Nat → Nat → Nat → Prop} : FxH (fxL n vas) (vas.getD a default) (.mk : Hid F) = F (a + 1) 0 n := fxH_eq (fxL_mem h) (fxL_uniq hnd h)
theorem fxL_mem_inv {n : Nat} {vas : List Value} {p : Value × V} (h : p ∈ fxL n vas) : ∃ a, a < vas.length ∧ p = (vas.getD a default, V.o (a + 1) 0 n) := by
  obtain ⟨i, hi, e⟩ := List.mem_map.1 h
  exact ⟨i, List.mem_range.1 hi, e.symm⟩
structure FP where
  a : Nat
  vas : List Value
def ffR (n : Nat) (L : List (Int × Int)) (either : Bool) (over : Int) : Nat → Nat → Int := farK n (far0 L either over) n
theorem rfar_spec (n : Nat) (L : List (Int × Int)) (either : Bool) (over : Int) (hpre : n ≤ 40 ∧ L.length < 2 ^ 62) : FnD Tryd.prog 87 [I .i64 (n : Int), .l (L.map lnD), Bo either, I .i64 over] (.l ((List.range n).map fun a => .l (ffRow n (ffR n L either over a)))) := by
  obtain ⟨hn, hL⟩ := hpre
  refine FnD.go Tryd.func87 rfl rfl Tryd.results87 Tryd.ntmps87 ?_
  simp (implicitDefEqProofs := false) (dsimp := false) only [↓aw_seq, ↓aw_block, ↓aw_loop, ↓aw_reg, ↓Qseq_n, ↓ops_nil, ↓ops_cons, ↓eval_int, ↓eval_nil, ↓put_some, ↓op_assign, List.set_cons_zero, List.set_cons_succ, List.cons_append, List.nil_append, List.map_cons, List.map_nil, List.length_cons, List.length_nil, Nat.reduceAdd, Nat.reduceSub, Nat.reduceMul, Nat.zero_add, List.replicate, evK_go, reduceIte, Nat.reduceEqDiff, Nat.reduceLT, Int.zero_add]
  refine loopW (fun x : FP => { tm := slots 157 [(0, .d (I .i64 (n : Int))), (1, .d (.l (L.map lnD))), (2, .d (Bo either)), (3, .d (I .i64 over)), (9, .o 0 0 x.a), (10, .d (I .i64 x.a))], bx := [], rw := some ⟨1, x.vas.map .c⟩ :: ffRows n x.a (far0 L either over), fx := fxL n x.vas })
    (fun x => x.a ≤ n ∧ x.vas.length = x.a ∧ x.vas.Nodup) (fun x => n - x.a) ⟨0, []⟩ ⟨by simp, rfl, List.nodup_nil⟩ ?_ ?_
  · show Wkn _ { tm := _, bx := [], rw := [some ⟨1, []⟩] }
    refine Wkn.of [] [none] ?_
    simp (implicitDefEqProofs := false) (dsimp := false) only [slots, ↓row_xs, List.set_cons_zero, List.set_cons_succ, Bool.and_self, Nat.reduceAdd, Nat.reduceSub, Nat.reduceMul, List.replicate, evK_go, reduceIte, Nat.reduceEqDiff, Nat.reduceLT, and_self, List.foldl_cons, List.foldl_nil, Int.cast_ofNat_Int, slots, wkL_nil, wkL_cons, wkB_nil, wkR_nil, wkR_new, wkV_j, wkV_d, nlK_nl, wkV_o, frz_d, oK_zn, reduceCtorEq]
  · rintro ⟨a, vas⟩ ⟨ha, hva, hnd⟩
    simp only at ha hva hnd
    have hrl := ffRows_len n a (far0 L either over)
    have hrs := ffRows_len n (a + 1) (far0 L either over)
    generalize hLw : ffRows n a (far0 L either over) = Lw at *
    simp (implicitDefEqProofs := false) (dsimp := false) only [slots, ↓aw_cond, ↓aw_seq, ↓aw_reg, ↓Qseq_n, ↓ops_nil, ↓ops_cons, ↓eval_tmp, ↓put_some, ↓bK_b, ↓binE_i, ↓bi_lss, ↓op_move, ↓op_bin, List.getD_cons_zero, List.getD_cons_succ, List.set_cons_zero, List.set_cons_succ, Nat.reduceAdd, Nat.reduceSub, Nat.reduceMul, List.replicate, evK_go, reduceIte, Nat.reduceEqDiff, Nat.reduceLT, List.foldl_cons, List.foldl_nil, Int.ofNat_lt]
    refine cdK_dec (fun h => ?_) (fun h => ?_)
    · simp (implicitDefEqProofs := false) (dsimp := false) only [↓aw_seq, ↓aw_block, ↓aw_skip, ↓aw_loop, ↓aw_reg, ↓Qseq_n, ↓ops_nil, ↓ops_cons, ↓eval_tmp, ↓eval_int, ↓put_some, ↓iK_i, ↓dK_d, ↓op_move, ↓op_assign, ↓op_make, ↓addRow_mk, ↓st_rw, ↓cells_c, ↓one_i, constV_i, ↓mk_, ↓vsz_int, ↓ty3, ↓zb3, ↓sl24, List.getD_cons_zero, List.getD_cons_succ, List.set_cons_zero, List.set_cons_succ, List.cons_append, List.length_cons, List.length_nil, List.all_cons, List.all_nil, Bool.and_true, Bool.true_and, Bool.and_self, Nat.reduceAdd, Nat.reduceSub, Nat.reduceMul, Nat.zero_add, Int.toNat_natCast, evK_go, reduceIte, Nat.reduceEqDiff, Nat.reduceLT, and_self, true_and, and_true, Int.zero_add, Int.natCast_nonneg]
      refine ⟨⟨by omega, by decide⟩, ?_⟩
      rw [hrl]
      have hfx0 : ∀ p ∈ fxL n vas, ∃ r' n' row', p.2 = V.o r' 0 n' ∧ 0 < n' ∧ r' ≠ a + 1 ∧ (some ⟨1, vas.map .c⟩ :: (Lw ++ [some ⟨1, List.replicate n (I .i64 0)⟩]) : List (Option Row)).getD r' none = some row' := fun p hp => by
        obtain ⟨i, hi, rfl⟩ := fxL_mem_inv hp
        refine ⟨i + 1, n, ⟨1, ffRow n (far0 L either over i)⟩, rfl, by omega, by omega, ?_⟩
        rw [List.getD_cons_succ, List.getD_eq_getElem?_getD, List.getElem?_append_left (by omega), ← List.getD_eq_getElem?_getD, ← hLw]
        exact ffRows_get _ (by omega)
      refine AWH.name1 11 rfl (by rw [List.getD_cons_succ]; exact last_getD hrl _) (by omega) hfx0 (fun v hv hvn => ?_)
      have hvn' : v ∉ vas := fun hm => by
        obtain ⟨i, hi, e⟩ := List.mem_iff_getElem.1 hm
        have e2 : vas.getD i default = v := by rw [List.getD_eq_getElem?_getD, List.getElem?_eq_getElem hi]; exact e
        exact hvn _ (fxL_mem hi) e2
      have hFx : ∀ {F : Nat → Nat → Nat → Prop}, FxH (fxL n vas ++ [(v, V.o (a + 1) 0 n)]) v (.mk : Hid F) = F (a + 1) 0 n := fun {F} => fxH_eq (by simp) (fun r' o' n' h => by
        rcases List.mem_append.1 h with h | h
        · exact absurd rfl (hvn _ h)
        · simp at h; omega)
      clear hfx0 hvn
      have hz : List.replicate n (I .i64 0) = ffRow n (fun j => if j < 0 then far0 L either over a j else 0) := by
        refine List.ext_getElem (by simp [ffRow]) fun i h1 h2 => ?_
        simp [ffRow]
      rw [hz]
      refine loopW (fun b : Nat => { tm := slots 157 [(0, .d (I .i64 (n : Int))), (1, .d (.l (L.map lnD))), (2, .d (Bo either)), (3, .d (I .i64 over)), (9, .o 0 0 a), (10, .d (I .i64 a)), (11, .d (.c v)), (12, .d (I .i64 b))], bx := [], rw := some ⟨1, vas.map .c⟩ :: (Lw ++ [some ⟨1, ffRow n (fun j => if j < b then far0 L either over a j else 0)⟩]), fx := fxL n vas ++ [(v, V.o (a + 1) 0 n)] })
        (fun b => b ≤ n) (fun b => n - b) 0 (by simp) ?_ ?_
      · refine Wkn.fx ?_ (fun p hp => hp)
        simp (implicitDefEqProofs := false) (dsimp := false) only [slots, tmLe_nil, tmLe_j, tmLe_s, List.set_cons_zero, List.set_cons_succ, Nat.reduceAdd, Nat.reduceSub, Nat.reduceMul, List.replicate, evK_go, reduceIte, Nat.reduceEqDiff, Nat.reduceLT, List.foldl_cons, List.foldl_nil, Int.cast_ofNat_Int]
        skip
      · intro b hb
        have hgl := ffRow_len n (fun j => if j < b then far0 L either over a j else 0)
        have hlg := fun x => last_getD hrl x
        have hls := fun x y => last_set hrl x y
        simp (implicitDefEqProofs := false) (dsimp := false) only [slots, ↓aw_cond, ↓aw_seq, ↓aw_reg, ↓Qseq_n, ↓ops_nil, ↓ops_cons, ↓eval_tmp, ↓put_some, ↓bK_b, ↓binE_i, ↓bi_lss, ↓op_move, ↓op_bin, List.getD_cons_zero, List.getD_cons_succ, List.set_cons_zero, List.set_cons_succ, Nat.reduceAdd, Nat.reduceSub, Nat.reduceMul, List.replicate, evK_go, reduceIte, Nat.reduceEqDiff, Nat.reduceLT, List.foldl_cons, List.foldl_nil, Int.ofNat_lt]
        refine cdK_dec (fun h2 => ?_) (fun h2 => ?_)
        · have hbn : b < n := by omega
          have hfin : (ffRow n (fun j => if j < b then far0 L either over a j else 0)).set b (I .i64 (far0 L either over a b)) = ffRow n (fun j => if j < b + 1 then far0 L either over a j else 0) := by
            rw [ffRow_set]
            congr 1
            funext j
            by_cases e : j = b
            · subst e; rw [if_pos rfl, if_pos (by omega)]
            · rw [if_neg e]
              by_cases e2 : j < b
              · rw [if_pos e2, if_pos (by omega)]
              · rw [if_neg e2, if_neg (by omega)]
          simp (implicitDefEqProofs := false) (dsimp := false) only [↓iaK_c, ↓hFx, hlg, hls, ↓optK_some, ↓rwK_H, ↓aw_cond, ↓aw_seq, ↓aw_block, ↓aw_skip, ↓aw_reg, ↓Qseq_n, ↓ops_nil, ↓ops_cons, ↓eval_tmp, ↓eval_int, ↓put_some, ↓put_none, ↓bK_b, ↓iK_i, ↓dK_d, ↓binE_i, ↓bi_eql, ↓op_move, ↓op_bin, ↓op_ia, ↓op_store, ↓setRow_mk, ↓row_sz, ↓row_xs, ↓cells_c, ↓one_i, ↓st_e, ↓ty3, ↓sl24, List.getD_cons_zero, List.getD_cons_succ, List.set_cons_zero, List.set_cons_succ, List.length_cons, List.length_nil, List.all_cons, List.all_nil, Bool.true_and, Bool.and_self, Nat.reduceAdd, Nat.reduceSub, Nat.reduceMul, Nat.zero_add, Int.toNat_natCast, evK_go, reduceIte, Nat.reduceEqDiff, Nat.reduceLT, and_self, true_and, Int.zero_add, Int.ofNat_lt, Int.natCast_nonneg, Int.natCast_inj]
          refine ⟨hbn, ?_⟩
          cases hab : decide (a = b) with
          | true =>
            have e0 : far0 L either over a b = 0 := if_pos (by simpa using hab)
            rw [e0] at hfin
            simp (implicitDefEqProofs := false) (dsimp := false) only [↓iaK_c, ↓hFx, hlg, hls, hbn, List.set_set, hfin, ↓cdK_true, ↓optK_some, ↓rwK_H, ↓aw_reg, ↓Qseq_n, ↓Qblk_n, ↓ops_nil, ↓ops_cons, ↓eval_tmp, ↓eval_int, ↓put_some, ↓put_none, ↓iK_i, ↓dK_d, ↓binE_i, ↓bi_add, ↓in_i64, ↓op_move, ↓op_assign, ↓op_bin, ↓op_ia, ↓op_store, ↓setRow_mk, ↓row_sz, ↓row_xs, ↓cells_c, ↓one_i, ↓st_e, ↓ty3, ↓sl24, List.getD_cons_zero, List.getD_cons_succ, List.set_cons_zero, List.set_cons_succ, List.length_cons, List.length_nil, List.all_cons, List.all_nil, Bool.true_and, Bool.and_self, Nat.reduceAdd, Nat.reduceSub, Nat.reduceMul, Nat.zero_add, Int.toNat_natCast, evK_go, reduceIte, decide_true, Nat.reduceEqDiff, Nat.reduceLT, and_self, true_and, Int.zero_add, Int.ofNat_lt, Int.natCast_nonneg]
            refine ⟨by omega, b + 1, by omega, by omega, ?_⟩
            refine Wkn.fx ?_ (fun p hp => hp)
            simp (implicitDefEqProofs := false) (dsimp := false) only [slots, tmLe_nil, tmLe_j, tmLe_s, List.set_cons_zero, List.set_cons_succ, Nat.reduceAdd, Nat.reduceSub, Nat.reduceMul, List.replicate, evK_go, reduceIte, Nat.reduceEqDiff, Nat.reduceLT, List.foldl_cons, List.foldl_nil, Int.cast_ofNat_Int, Int.natCast_add]
          | false =>
            have hab' : a ≠ b := by simpa using hab
            have e1 : far0 L either over a b = if ((a : Int) ≠ over ∧ (b : Int) ≠ over) ∧ (((a : Int), (b : Int)) ∈ L ∨ (either = true ∧ ((b : Int), (a : Int)) ∈ L)) then 1 else -1 := if_neg hab'
            by_cases ho1 : (a : Int) = over
            · rw [if_neg (fun e => e.1.1 ho1)] at e1
              rw [e1] at hfin
              simp (implicitDefEqProofs := false) (dsimp := false) only [decide_eq_true ho1, hbn, hfin, ↓cdK_false, ↓gdK_junk, ↓gdK_t, ↓gval_mk, ↓gvL_zero, ↓gvL_succ, ↓aw_cond, ↓aw_seq, ↓aw_skip, ↓aw_reg, ↓Qseq_n, ↓Qblk_n, ↓ops_nil, ↓ops_cons, ↓ops_guard, ↓eval_tmp, ↓eval_int, ↓eval_bool, ↓put_some, ↓bK_b, ↓binE_i, ↓bi_add, ↓bi_neq, ↓in_i64, ↓op_move, ↓op_assign, ↓op_pick, ↓op_bin, ↓st_tm, List.getD_cons_zero, List.getD_cons_succ, List.set_cons_zero, List.set_cons_succ, Nat.reduceAdd, Nat.reduceSub, Nat.reduceMul, evK_go, reduceIte, decide_true, Bool.not_true, Nat.reduceEqDiff, Nat.reduceLT]
              refine ⟨by omega, b + 1, by omega, by omega, ?_⟩
              refine Wkn.fx ?_ (fun p hp => hp)
              simp (implicitDefEqProofs := false) (dsimp := false) only [slots, tmLe_nil, tmLe_j, tmLe_s, List.set_cons_zero, List.set_cons_succ, Nat.reduceAdd, Nat.reduceSub, Nat.reduceMul, List.replicate, evK_go, reduceIte, Nat.reduceEqDiff, Nat.reduceLT, List.foldl_cons, List.foldl_nil, Int.cast_ofNat_Int, Int.natCast_add]
            by_cases ho2 : (b : Int) = over
            · rw [if_neg (fun e => e.1.2 ho2)] at e1
              rw [e1] at hfin
              simp (implicitDefEqProofs := false) (dsimp := false) only [decide_eq_false ho1, decide_eq_true ho2, hbn, hfin, ↓cdK_true, ↓cdK_false, ↓gdK_junk, ↓gdK_t, ↓gval_mk, ↓gvL_zero, ↓gvL_succ, ↓aw_cond, ↓aw_seq, ↓aw_skip, ↓aw_reg, ↓Qseq_n, ↓Qblk_n, ↓ops_nil, ↓ops_cons, ↓ops_guard, ↓eval_tmp, ↓eval_int, ↓eval_bool, ↓put_some, ↓bK_b, ↓binE_i, ↓bi_add, ↓bi_neq, ↓in_i64, ↓op_move, ↓op_assign, ↓op_pick, ↓op_bin, ↓st_tm, List.getD_cons_zero, List.getD_cons_succ, List.set_cons_zero, List.set_cons_succ, Nat.reduceAdd, Nat.reduceSub, Nat.reduceMul, evK_go, reduceIte, decide_true, Bool.not_true, Bool.not_false, Nat.reduceEqDiff, Nat.reduceLT]
              refine ⟨by omega, b + 1, by omega, by omega, ?_⟩
              refine Wkn.fx ?_ (fun p hp => hp)
              simp (implicitDefEqProofs := false) (dsimp := false) only [slots, tmLe_nil, tmLe_j, tmLe_s, List.set_cons_zero, List.set_cons_succ, Nat.reduceAdd, Nat.reduceSub, Nat.reduceMul, List.replicate, evK_go, reduceIte, Nat.reduceEqDiff, Nat.reduceLT, List.foldl_cons, List.foldl_nil, Int.cast_ofNat_Int, Int.natCast_add]
            simp (implicitDefEqProofs := false) (dsimp := false) only [decide_eq_false ho1, decide_eq_false ho2, goes_call, hL, ↓cdK_true, ↓cdK_false, ↓gdK_t, ↓gdK_f, ↓gval_mk, ↓gvL_zero, ↓gvL_succ, ↓aw_seq, ↓aw_reg, ↓ops_cons, ↓ops_guard, ↓eval_tmp, ↓eval_func, ↓put_some, ↓bK_b, ↓binE_i, ↓bi_neq, ↓op_move, ↓op_pick, ↓op_bin, ↓op_call, isD_d, ↓fnK_f, ↓call_H, ↓callK_H, ↓allT_nil, ↓allT_cons, ↓td_d, ↓st_tm, List.getD_cons_zero, List.getD_cons_succ, List.set_cons_zero, List.set_cons_succ, List.append_nil, List.all_cons, List.all_nil, Bool.true_and, Bool.and_self, Bool.true_or, Nat.reduceAdd, Nat.reduceSub, Nat.reduceMul, evK_go, reduceIte, Bool.not_false, Nat.reduceEqDiff, Nat.reduceLT, and_self, true_and]
            (repeat refine OrH.l ?_)
            by_cases hg1 : ((a : Int), (b : Int)) ∈ L
            · rw [if_pos ⟨⟨ho1, ho2⟩, .inl hg1⟩] at e1
              rw [e1] at hfin
              simp (implicitDefEqProofs := false) (dsimp := false) only [decide_eq_true hg1, ↓iaK_c, ↓hFx, hlg, hls, hbn, List.set_set, hfin, ↓cdK_true, ↓gdK_junk, ↓gdK_t, ↓gdK_f, ↓gval_mk, ↓gvL_zero, ↓gvL_succ, ↓optK_some, ↓rwK_H, ↓aw_cond, ↓aw_reg, ↓Qseq_n, ↓Qblk_n, ↓ops_nil, ↓ops_cons, ↓ops_guard, ↓eval_tmp, ↓eval_int, ↓eval_bool, ↓put_some, ↓put_none, ↓bK_b, ↓iK_i, ↓dK_d, ↓binE_i, ↓bi_add, ↓in_i64, ↓op_move, ↓op_assign, ↓op_pick, ↓op_bin, ↓op_ia, ↓op_store, ↓setRow_mk, ↓st_tm, ↓row_sz, ↓row_xs, ↓cells_c, ↓one_i, ↓st_e, ↓ty3, ↓sl24, List.getD_cons_zero, List.getD_cons_succ, List.set_cons_zero, List.set_cons_succ, List.length_cons, List.length_nil, List.all_cons, List.all_nil, Bool.true_and, Bool.and_self, Nat.reduceAdd, Nat.reduceSub, Nat.reduceMul, Nat.zero_add, Int.toNat_natCast, evK_go, reduceIte, decide_true, Nat.reduceEqDiff, Nat.reduceLT, and_self, true_and, Int.zero_add, Int.ofNat_lt, Int.natCast_nonneg]
              refine ⟨by omega, b + 1, by omega, by omega, ?_⟩
              refine Wkn.fx ?_ (fun p hp => hp)
              simp (implicitDefEqProofs := false) (dsimp := false) only [slots, tmLe_nil, tmLe_j, tmLe_s, List.set_cons_zero, List.set_cons_succ, Nat.reduceAdd, Nat.reduceSub, Nat.reduceMul, List.replicate, evK_go, reduceIte, Nat.reduceEqDiff, Nat.reduceLT, List.foldl_cons, List.foldl_nil, Int.cast_ofNat_Int, Int.natCast_add]
            cases heb : either with
            | false =>
              subst heb
              rw [if_neg (fun e => e.2.elim hg1 fun e => by cases e.1)] at e1
              rw [e1] at hfin
              simp (implicitDefEqProofs := false) (dsimp := false) only [decide_eq_false hg1, hbn, hfin, ↓cdK_true, ↓cdK_false, ↓gdK_t, ↓gdK_f, ↓gval_mk, ↓gvL_zero, ↓gvL_succ, ↓aw_cond, ↓aw_skip, ↓aw_reg, ↓Qseq_n, ↓Qblk_n, ↓ops_nil, ↓ops_cons, ↓ops_guard, ↓eval_tmp, ↓eval_int, ↓eval_bool, ↓put_some, ↓bK_b, ↓binE_i, ↓bi_add, ↓in_i64, ↓op_move, ↓op_assign, ↓op_pick, ↓op_bin, ↓st_tm, List.getD_cons_zero, List.getD_cons_succ, List.set_cons_zero, List.set_cons_succ, Nat.reduceAdd, Nat.reduceSub, Nat.reduceMul, evK_go, reduceIte, decide_true, Nat.reduceEqDiff, Nat.reduceLT]
              refine ⟨by omega, b + 1, by omega, by omega, ?_⟩
              refine Wkn.fx ?_ (fun p hp => hp)
              simp (implicitDefEqProofs := false) (dsimp := false) only [slots, tmLe_nil, tmLe_j, tmLe_s, List.set_cons_zero, List.set_cons_succ, Nat.reduceAdd, Nat.reduceSub, Nat.reduceMul, List.replicate, evK_go, reduceIte, Nat.reduceEqDiff, Nat.reduceLT, List.foldl_cons, List.foldl_nil, Int.cast_ofNat_Int, Int.natCast_add]
            | true =>
              subst heb
              simp (implicitDefEqProofs := false) (dsimp := false) only [decide_eq_false hg1, goes_call, hL, ↓cdK_true, ↓cdK_false, ↓gdK_t, ↓gdK_f, ↓gval_mk, ↓gvL_zero, ↓gvL_succ, ↓aw_cond, ↓Qseq_n, ↓ops_nil, ↓ops_cons, ↓ops_guard, ↓eval_tmp, ↓eval_func, ↓put_some, ↓bK_b, ↓op_move, ↓op_pick, ↓op_call, isD_d, ↓fnK_f, ↓call_H, ↓callK_H, ↓allT_nil, ↓allT_cons, ↓td_d, ↓st_tm, List.getD_cons_zero, List.getD_cons_succ, List.set_cons_zero, List.set_cons_succ, List.append_nil, List.all_cons, List.all_nil, Bool.true_and, Bool.and_self, Bool.true_or, Nat.reduceAdd, Nat.reduceSub, Nat.reduceMul, evK_go, reduceIte, Nat.reduceEqDiff, Nat.reduceLT, and_self, true_and]
              (repeat refine OrH.l ?_)
              by_cases hg2 : ((b : Int), (a : Int)) ∈ L
              · rw [if_pos ⟨⟨ho1, ho2⟩, .inr ⟨rfl, hg2⟩⟩] at e1
                rw [e1] at hfin
                simp (implicitDefEqProofs := false) (dsimp := false) only [decide_eq_true hg2, ↓iaK_c, ↓hFx, hlg, hls, hbn, List.set_set, hfin, ↓cdK_true, ↓optK_some, ↓rwK_H, ↓aw_reg, ↓Qseq_n, ↓Qblk_n, ↓ops_nil, ↓ops_cons, ↓eval_tmp, ↓eval_int, ↓put_some, ↓put_none, ↓iK_i, ↓dK_d, ↓binE_i, ↓bi_add, ↓in_i64, ↓op_move, ↓op_assign, ↓op_bin, ↓op_ia, ↓op_store, ↓setRow_mk, ↓row_sz, ↓row_xs, ↓cells_c, ↓one_i, ↓st_e, ↓ty3, ↓sl24, List.getD_cons_zero, List.getD_cons_succ, List.set_cons_zero, List.set_cons_succ, List.length_cons, List.length_nil, List.all_cons, List.all_nil, Bool.true_and, Bool.and_self, Nat.reduceAdd, Nat.reduceSub, Nat.reduceMul, Nat.zero_add, Int.toNat_natCast, evK_go, reduceIte, decide_true, Nat.reduceEqDiff, Nat.reduceLT, and_self, true_and, Int.zero_add, Int.ofNat_lt, Int.natCast_nonneg]
                refine ⟨by omega, b + 1, by omega, by omega, ?_⟩
                refine Wkn.fx ?_ (fun p hp => hp)
                simp (implicitDefEqProofs := false) (dsimp := false) only [slots, tmLe_nil, tmLe_j, tmLe_s, List.set_cons_zero, List.set_cons_succ, Nat.reduceAdd, Nat.reduceSub, Nat.reduceMul, List.replicate, evK_go, reduceIte, Nat.reduceEqDiff, Nat.reduceLT, List.foldl_cons, List.foldl_nil, Int.cast_ofNat_Int, Int.natCast_add]
              · rw [if_neg (fun e => e.2.elim hg1 fun e => hg2 e.2)] at e1
                rw [e1] at hfin
                simp (implicitDefEqProofs := false) (dsimp := false) only [decide_eq_false hg2, hbn, hfin, ↓cdK_false, ↓aw_skip, ↓aw_reg, ↓Qseq_n, ↓Qblk_n, ↓ops_nil, ↓ops_cons, ↓eval_tmp, ↓eval_int, ↓put_some, ↓binE_i, ↓bi_add, ↓in_i64, ↓op_move, ↓op_assign, ↓op_bin, List.getD_cons_zero, List.getD_cons_succ, List.set_cons_zero, List.set_cons_succ, Nat.reduceAdd, Nat.reduceSub, Nat.reduceMul, evK_go, reduceIte, decide_true, Nat.reduceEqDiff, Nat.reduceLT]
                refine ⟨by omega, b + 1, by omega, by omega, ?_⟩
                refine Wkn.fx ?_ (fun p hp => hp)
                simp (implicitDefEqProofs := false) (dsimp := false) only [slots, tmLe_nil, tmLe_j, tmLe_s, List.set_cons_zero, List.set_cons_succ, Nat.reduceAdd, Nat.reduceSub, Nat.reduceMul, List.replicate, evK_go, reduceIte, Nat.reduceEqDiff, Nat.reduceLT, List.foldl_cons, List.foldl_nil, Int.cast_ofNat_Int, Int.natCast_add]
        · obtain rfl : b = n := by omega
          have hx1 : ffRow b (fun j => if j < b then far0 L either over a j else 0) = ffRow b (far0 L either over a) := by
            unfold ffRow
            refine List.map_congr_left fun j hj => ?_
            show I .i64 (if j < b then far0 L either over a j else 0) = _
            rw [if_pos (List.mem_range.1 hj)]
          have hx2 : ffRows b (a + 1) (far0 L either over) = Lw ++ [some ⟨1, ffRow b (far0 L either over a)⟩] := by
            rw [← hLw]
            unfold ffRows
            rw [List.range_succ, List.map_append]
            rfl
          simp (implicitDefEqProofs := false) (dsimp := false) only [↓optK_some, ↓rwK_H, ↓aw_seq, ↓aw_block, ↓aw_exit, ↓aw_loop, ↓aw_reg, ↓Qseq_n, ↓Qseq_x, ↓Qblk_n, ↓Qblk_x, ↓ops_nil, ↓ops_cons, ↓eval_tmp, ↓eval_int, ↓put_some, ↓dK_d, ↓binE_i, ↓bi_add, ↓in_i64, ↓op_move, ↓op_assign, ↓op_bin, ↓op_append, ↓allD_nil, ↓allD_cons, ↓app_mk, ↓row_sz, ↓row_xs, kill_d, kill_j, kill_o, ↓cells_c, ↓ap_, ↓ap_o, ↓src_l, ↓bs_, ↓op_bs, ↓bsL_f, ↓stored_mk, ↓sl_nil, ↓sl_cons, ↓sT_move, ↓sT_assign, ↓sT_bs, ↓sT_call, ↓vsz_slice, ↓inO_1, ↓fm_nil, ↓fm_cons, ↓ty24, ↓zb24, ↓sl69, List.getD_cons_zero, List.getD_cons_succ, List.set_cons_zero, List.set_cons_succ, List.map_cons, List.map_nil, List.length_cons, List.length_nil, List.length_map, List.all_cons, List.all_nil, Bool.and_true, Bool.true_and, Bool.and_self, Bool.or_false, Nat.reduceAdd, Nat.reduceSub, Nat.reduceMul, Nat.zero_add, evK_go, reduceIte, decide_false, Nat.reduceEqDiff, Nat.reduceLT, and_self, true_and, and_true, Nat.lt_irrefl, Int.zero_add, List.drop_zero]
          refine ⟨by decide, hv, hv, ⟨fun _ => trivial, hva.symm, by omega, by omega⟩, by omega, ⟨a + 1, vas ++ [v]⟩, ⟨by show a + 1 ≤ b; omega, by simp [hva], ?_⟩, by show b - (a + 1) < b - a; omega, ?_⟩
          · refine List.nodup_append.2 ⟨hnd, by simp, fun x hx y hy e => ?_⟩
            rw [List.mem_singleton.1 hy] at e
            exact hvn' (e ▸ hx)
          · rw [hx1, List.map_append, fxL_kill]
            show Wkn _ { tm := _, bx := [], rw := some ⟨1, (vas ++ [v]).map .c⟩ :: ffRows b (a + 1) (far0 L either over), fx := fxL b (vas ++ [v]) }
            rw [hx2, fxL_snoc, hva, List.map_append]
            refine Wkn.fx ?_ (fun p hp => by simpa [V.kill] using hp)
            simp (implicitDefEqProofs := false) (dsimp := false) only [slots, tmLe_nil, tmLe_j, tmLe_s, List.set_cons_zero, List.set_cons_succ, Nat.reduceAdd, Nat.reduceSub, Nat.reduceMul, List.replicate, evK_go, reduceIte, Nat.reduceEqDiff, Nat.reduceLT, List.foldl_cons, List.foldl_nil, Int.cast_ofNat_Int, Int.natCast_add]
            skip
    · obtain rfl : a = n := by omega
      subst hLw
      have hF0 := far0_b L either over
      have hres : ffR a L either over = farK a (far0 L either over) a := rfl
      rw [hres]
      generalize far0 L either over = F0 at *
      simp (implicitDefEqProofs := false) (dsimp := false) only [↓aw_seq, ↓aw_block, ↓aw_exit, ↓aw_loop, ↓aw_reg, ↓Qseq_n, ↓Qseq_x, ↓Qblk_x, ↓ops_nil, ↓ops_cons, ↓eval_int, ↓put_some, ↓op_assign, List.set_cons_zero, List.set_cons_succ, Nat.reduceAdd, Nat.reduceSub, Nat.reduceMul, evK_go, reduceIte, decide_false, Nat.reduceEqDiff, Nat.reduceLT, Nat.lt_irrefl]
      refine loopX (fun k : Nat => { tm := slots 157 [(0, .d (I .i64 (a : Int))), (9, .o 0 0 a), (13, .d (I .i64 k))], bx := [], rw := some ⟨1, vas.map .c⟩ :: ffRows a a (farK a F0 k), fx := fxL a vas })
        (fun k => k ≤ a) (fun k => a - k) 4 (fun _ : Unit => { tm := slots 157 [(9, .d (.l ((List.range a).map fun b => .l (ffRow a (farK a F0 a b)))))], bx := [], rw := [] }) (fun _ => True) 0 (by simp) ?_ ?_ ?_
      · refine Wkn.fx ?_ (fun p hp => hp)
        simp (implicitDefEqProofs := false) (dsimp := false) only [slots, tmLe_nil, tmLe_j, tmLe_s, List.set_cons_zero, List.set_cons_succ, Nat.reduceAdd, Nat.reduceSub, Nat.reduceMul, List.replicate, evK_go, reduceIte, Nat.reduceEqDiff, Nat.reduceLT, List.foldl_cons, List.foldl_nil, Int.cast_ofNat_Int]
      · intro k hk
        simp (implicitDefEqProofs := false) (dsimp := false) only [slots, ↓aw_cond, ↓aw_seq, ↓aw_reg, ↓Qseq_n, ↓ops_nil, ↓ops_cons, ↓eval_tmp, ↓put_some, ↓bK_b, ↓binE_i, ↓bi_lss, ↓op_move, ↓op_bin, List.getD_cons_zero, List.getD_cons_succ, List.set_cons_zero, List.set_cons_succ, Nat.reduceAdd, Nat.reduceSub, Nat.reduceMul, List.replicate, evK_go, reduceIte, Nat.reduceEqDiff, Nat.reduceLT, List.foldl_cons, List.foldl_nil, Int.ofNat_lt]
        refine cdK_dec (fun h2 => ?_) (fun h2 => ?_)
        · have hka : k < a := by omega
          have hmid := farK_mid a hF0 k
          have hKs : farK a F0 (k + 1) = farA a (farK a F0 k) k a := rfl
          generalize farK a F0 k = FK at hmid hKs ⊢
          simp (implicitDefEqProofs := false) (dsimp := false) only [↓aw_seq, ↓aw_block, ↓aw_skip, ↓aw_loop, ↓aw_reg, ↓Qseq_n, ↓ops_nil, ↓ops_cons, ↓eval_int, ↓put_some, ↓op_assign, List.set_cons_zero, List.set_cons_succ, Nat.reduceAdd, Nat.reduceSub, Nat.reduceMul, evK_go, reduceIte, Nat.reduceEqDiff, Nat.reduceLT]
          refine loopW (fun i : Nat => { tm := slots 157 [(0, .d (I .i64 (a : Int))), (9, .o 0 0 a), (13, .d (I .i64 k)), (14, .d (I .i64 i))], bx := [], rw := some ⟨1, vas.map .c⟩ :: ffRows a a (farA a FK k i), fx := fxL a vas })
            (fun i => i ≤ a) (fun i => a - i) 0 (by simp) ?_ ?_
          · refine Wkn.fx ?_ (fun p hp => hp)
            simp (implicitDefEqProofs := false) (dsimp := false) only [slots, tmLe_nil, tmLe_j, tmLe_s, List.set_cons_zero, List.set_cons_succ, Nat.reduceAdd, Nat.reduceSub, Nat.reduceMul, List.replicate, evK_go, reduceIte, Nat.reduceEqDiff, Nat.reduceLT, List.foldl_cons, List.foldl_nil, Int.cast_ofNat_Int]
          · intro i hi
            simp (implicitDefEqProofs := false) (dsimp := false) only [slots, ↓aw_cond, ↓aw_seq, ↓aw_reg, ↓Qseq_n, ↓ops_nil, ↓ops_cons, ↓eval_tmp, ↓put_some, ↓bK_b, ↓binE_i, ↓bi_lss, ↓op_move, ↓op_bin, List.getD_cons_zero, List.getD_cons_succ, List.set_cons_zero, List.set_cons_succ, Nat.reduceAdd, Nat.reduceSub, Nat.reduceMul, List.replicate, evK_go, reduceIte, Nat.reduceEqDiff, Nat.reduceLT, List.foldl_cons, List.foldl_nil, Int.ofNat_lt]
            refine cdK_dec (fun h3 => ?_) (fun h3 => ?_)
            · have hia : i < a := by omega
              have hmi := hmid.a (n := a) i
              have hAs : farA a FK k (i + 1) = farB (farA a FK k i) k i a := rfl
              generalize farA a FK k i = FA at hmi hAs ⊢
              simp (implicitDefEqProofs := false) (dsimp := false) only [↓aw_seq, ↓aw_block, ↓aw_skip, ↓aw_loop, ↓aw_reg, ↓Qseq_n, ↓ops_nil, ↓ops_cons, ↓eval_int, ↓put_some, ↓op_assign, List.set_cons_zero, List.set_cons_succ, Nat.reduceAdd, Nat.reduceSub, Nat.reduceMul, evK_go, reduceIte, Nat.reduceEqDiff, Nat.reduceLT]
              refine loopW (fun j : Nat => { tm := slots 157 [(0, .d (I .i64 (a : Int))), (9, .o 0 0 a), (13, .d (I .i64 k)), (14, .d (I .i64 i)), (15, .d (I .i64 j))], bx := [], rw := some ⟨1, vas.map .c⟩ :: ffRows a a (farB FA k i j), fx := fxL a vas })
                (fun j => j ≤ a) (fun j => a - j) 0 (by simp) ?_ ?_
              · refine Wkn.fx ?_ (fun p hp => hp)
                simp (implicitDefEqProofs := false) (dsimp := false) only [slots, tmLe_nil, tmLe_j, tmLe_s, List.set_cons_zero, List.set_cons_succ, Nat.reduceAdd, Nat.reduceSub, Nat.reduceMul, List.replicate, evK_go, reduceIte, Nat.reduceEqDiff, Nat.reduceLT, List.foldl_cons, List.foldl_nil, Int.cast_ofNat_Int]
              · intro j hj
                simp (implicitDefEqProofs := false) (dsimp := false) only [slots, ↓aw_cond, ↓aw_seq, ↓aw_reg, ↓Qseq_n, ↓ops_nil, ↓ops_cons, ↓eval_tmp, ↓put_some, ↓bK_b, ↓binE_i, ↓bi_lss, ↓op_move, ↓op_bin, List.getD_cons_zero, List.getD_cons_succ, List.set_cons_zero, List.set_cons_succ, Nat.reduceAdd, Nat.reduceSub, Nat.reduceMul, List.replicate, evK_go, reduceIte, Nat.reduceEqDiff, Nat.reduceLT, List.foldl_cons, List.foldl_nil, Int.ofNat_lt]
                refine cdK_dec (fun h4 => ?_) (fun h4 => ?_)
                · have hja : j < a := by omega
                  have hmj := hmi.b i j
                  have hBs : farB FA k i (j + 1) = relF (farB FA k i j) k i j := rfl
                  generalize farB FA k i j = F at hmj hBs ⊢
                  have hgi := ffRows_get (n := a) F hia
                  have hgk := ffRows_get (n := a) F hka
                  have hiv : i < vas.length := by omega
                  have hkv : k < vas.length := by omega
                  have hFi : ∀ {F : Nat → Nat → Nat → Prop}, FxH (fxL a vas) (vas.getD i default) (.mk : Hid F) = F (i + 1) 0 a := fun {F} => fxH_L hnd hiv
                  have hFk : ∀ {F : Nat → Nat → Nat → Prop}, FxH (fxL a vas) (vas.getD k default) (.mk : Hid F) = F (k + 1) 0 a := fun {F} => fxH_L hnd hkv
                  have hlr : (List.range a).length = a := List.length_range
                  have hri := rng_getD hia
                  have hrk := rng_getD hka
                  have hrj := rng_getD hja
                  have b1 := mid_small hmj hka hn i k
                  have b2 := mid_small hmj hka hn k j
                  by_cases c1 : 0 ≤ F i k
                  rotate_left
                  · have d1 := decide_eq_false c1
                    simp (implicitDefEqProofs := false) (dsimp := false) (maxSteps := 3000000) only [d1, ↓iaK_c, ↓hFi, ↓hFk, hgi, hgk, hiv, hkv, hva, hia, hka, hja, hlr, hri, hrk, hrj, ffRow, eval_nilI, ↓er_neq0, ↓er_eql0, ↓er_neq, ↓er_eql, ↓bo_eql, ↓bo_neq, lnD_cells, lnN_cells, er_one, er_flat, rflat_U, rflat_nD, rflat_I, rflat_nil, ↓cdK_true, ↓cdK_false, ↓cdK_not, ↓gdK_tt, ↓gdK_tf, ↓gdK_ft, ↓gdK_ff, ↓gdK_junk, ↓gdK_t, ↓gdK_f, ↓gval_mk, ↓gvL_zero, ↓gvL_succ, ↓optK_some, ↓rwK_H, ↓atK_H, ↓atH_map, ↓atH_appmap, ↓nthK_H, ↓nthH_zero, ↓nthH_succ, ↓aw_cond, ↓aw_seq, ↓aw_block, ↓aw_exit, ↓aw_ret, ↓aw_skip, ↓aw_loop, ↓aw_rng, ↓aw_reg, ↓aw_draw, ↓Qseq_n, ↓Qseq_x, ↓Qseq_r, ↓Qblk_n, ↓Qblk_r, ↓Qblk_x, ↓Qblk_here, ↓Qret_r, ↓Qret_n, ↓ops_nil, ↓ops_cons, ↓ops_guard, ↓eval_tmp, ↓eval_int, ↓eval_bool, ↓eval_nil, ↓eval_agg, ↓eval_func, ↓put_some, ↓put_none, ↓bK_b, ↓iK_i, ↓dK_d, ↓dK_nl, ↓lenK_nl, ↓lenK_l, ↓lenK_o, ↓ev_move, ↓ev_assign, ↓ev_pick, ↓ev_load, ↓ev_bin, ↓ev_not, ↓ev_fa, ↓ev_ia, ↓sK_s, ↓tK_t, ↓vK_c, ↓ev_index, ↓ev_extract, ↓ev_iface, ↓ev_func, ↓capsK_nil, ↓capsK_cons, ↓ev_slice, ↓optI_none, ↓optI_some, ↓ev_build, ↓ev_len, ↓ev_max, ↓binE_i, ↓binE_shl, ↓binE_shr, ↓bi_add, ↓bi_sub, ↓bi_mul, ↓bi_quo, ↓bi_rem, ↓bi_eql, ↓bi_neq, ↓bi_lss, ↓bi_leq, ↓bi_gtr, ↓bi_geq, ↓bi_and, ↓bi_or, ↓bi_andNot, ↓bi_shl1, ↓bi_shr, ↓in_i64, ↓in_u64, ↓ldK_q, ↓sboxK_s, ↓ldK_p, ↓ldK_e, ↓faK_q, ↓faK_p, ↓faK_e, ↓iaK_l, ↓iaK_o, ↓sliK_nl, ↓sliK_l, ↓sliK_o, ↓op_move, ↓op_assign, ↓op_pick, ↓op_load, ↓op_bin, ↓op_not, ↓op_fa, ↓op_ia, ↓op_index, ↓op_extract, ↓op_iface, ↓op_func, ↓op_slice, ↓op_build, ↓op_len, ↓op_max, ↓op_append, ↓op_call, ↓op_alloc, ↓op_box, ↓op_store, ↓op_make, ↓orH_T, isD_d, isD_nl, isD_o, isD_p, isD_fp, ↓fnK_f, ↓call_H, ↓callK_H, ↓callKQ_H, ↓allT_nil, ↓allT_cons, ↓allD_nil, ↓allD_cons, ↓td_d, ↓td_nl, ↓td_o, ↓boxK_d, ↓td_p, ↓td_fp, ↓bq_nil, ↓bq_cons, ↓ret_1, ↓ret_2, ↓ret_3, ↓draw_H, ↓h_nil, ↓h_cons, ↓ldH_t, ↓ldH_n, ↓ldH_g, ↓q_call, ↓q_bi, ↓q_bs, ↓q_move, ↓q_assign, ↓q_pick, ↓q_load, ↓q_bin, ↓q_un, ↓q_fa, ↓q_ia, ↓q_index, ↓q_extract, ↓q_iface, ↓q_func, ↓q_slice, ↓q_build, ↓il_move, ↓il_assign, ↓il_pick, ↓il_load, ↓il_bin, ↓il_un, ↓il_fa, ↓il_ia, ↓il_index, ↓il_extract, ↓il_iface, ↓il_func, ↓il_slice, ↓il_build, ↓il_bs, ↓il_call, ↓il_len, ↓il_max, ↓il_append, ↓il_store, ↓il_alloc, ↓il_box, ↓il_make, ↓addBox_mk, ↓addRow_mk, ↓setBox_mk, ↓setRow_mk, ↓app_mk, ↓st_tm, ↓st_bx, ↓st_rw, ↓st_gh, ↓row_sz, ↓row_xs, kill_d, kill_j, kill_nl, kill_p, kill_fp, kill_o, kill_e, kill_junk, ↓cells_i, ↓cells_b, ↓cells_c, ↓cells_s, ↓cells_l, ↓cells_q, ↓vcells_i, ↓vcells_b, ↓vcells_c, ↓vcells_l, ↓vcells_q, ↓vcells_s, ↓vcells_j, ↓vcells_nl, ↓vcells_o, ↓vcells_p, ↓one_i, ↓one_b, ↓one_l, ↓one_q, ↓one_iface, ↓vone_d, ↓vone_nl, ↓vone_o, ↓vone_p, constV_i, constV_b, constV_n, constV_a, ↓st_p, ↓st_e, ↓ap_, ↓ap_nl, ↓ap_o, ↓src_nl, ↓src_l, ↓src_o, ↓mk_, ↓bs_, ↓op_bs, ↓bsL_t, ↓bsL_f, ↓stored_mk, ↓sl_nil, ↓sl_cons, ↓st_store_t, ↓st_store_c, ↓sT_move, ↓sT_assign, ↓sT_pick, ↓sT_load, ↓sT_bin, ↓sT_un, ↓sT_fa, ↓sT_ia, ↓sT_index, ↓sT_extract, ↓sT_iface, ↓sT_func, ↓sT_slice, ↓sT_build, ↓sT_bs, ↓sT_call, ↓sT_alloc, ↓sT_box, ↓sT_make, ↓beq_some, ↓vsz_int, ↓vsz_bool, ↓vsz_slice, ↓vsz_agg, ↓inO_1, ↓inO_2, ↓inO_3, ↓inO_4, ↓fm_nil, ↓fm_cons, ↓take_map, ↓take_all, ↓res_H, ↓resH_d, ↓resH_row, ↓hd_cons, ↓Qrow_n, ↓Qrow_r, ↓rowK_nl, ↓rowK_o, ↓Qn_n, ↓Qrd_n, ↓Qrd_r, ↓Qrd_x, ↓back_mk, ↓ty2, ↓zb2, ↓ty3, ↓zb3, ↓ty4, ↓zb4, ↓ty22, ↓sl22, ↓zb22, ↓ty24, ↓sl24, ↓zb24, ↓ty29, ↓ty40, ↓zb40, ↓fd40_0, ↓fd40_1, ↓bd40, ↓ty41, ↓zb41, ↓fd41_0, ↓fd41_1, ↓bd41, ↓ty45, ↓sl45, ↓zb45, ↓ty46, ↓sl46, ↓zb46, ↓ty69, ↓sl69, ↓zb69, ↓ty90, ↓zb90, ↓fd90_0, ↓fd90_1, ↓bd90, ↓ty91, ↓zb91, ↓fd91_0, ↓fd91_1, ↓bd91, ↓ty92, ↓zb92, ↓fd92_0, ↓fd92_1, ↓bd92, ↓ty93, ↓zb93, ↓fd93_0, ↓fd93_1, ↓bd93, ↓ty99, ↓sl99, ↓zb99, ↓ty101, ↓zb101, ↓ty102, ↓zb102, ↓ty108, ↓zb108, ↓nc108, ↓ty114, ↓zb114, ↓ar114, ↓bd114, ↓ty118, ↓zb118, ↓ar118, ↓bd118, ↓ty126, ↓ty153, ↓sl153, ↓zb153, ↓ty176, ↓zb176, ↓ty183, List.getD_cons_zero, List.getD_cons_succ, List.set_cons_zero, List.set_cons_succ, List.cons_append, List.nil_append, List.append_nil, List.map_cons, List.map_nil, List.length_cons, List.length_nil, List.length_map, List.all_cons, List.all_nil, Bool.and_true, Bool.true_and, Bool.and_self, Bool.and_false, Bool.false_and, Bool.or_true, Bool.true_or, Bool.or_false, Bool.false_or, Nat.reduceAdd, Nat.reduceSub, Nat.reduceMul, Nat.zero_add, Nat.add_zero, Int.toNat_natCast, Int.toNat_zero, Int.toNat_one, List.replicate, evK_go, reduceIte, decide_true, decide_false, Bool.not_true, Bool.not_false, Nat.reduceEqDiff, Nat.reduceLT, and_self, true_and, and_true, ne_eq, not_true_eq_false, not_false_eq_true, Nat.lt_irrefl, Option.getD_none, Option.getD_some, Nat.add_eq, Int.zero_add, List.length_replicate, List.drop_zero, List.take_succ_cons, List.drop_succ_cons, List.take_zero, List.take_nil, List.drop_nil, List.foldl_cons, List.foldl_nil, List.toList_toArray, Int.cast_ofNat_Int, Int.natCast_add, Int.ofNat_lt, Int.ofNat_le, Int.natCast_nonneg, Int.natCast_inj]
                    refine OrH.l ⟨DrawH.of follows_mixed (by kernel_rfl), ?_⟩
                    rw [relF, if_neg (by omega)] at hBs
                    refine ⟨by omega, j + 1, by omega, by omega, ?_⟩
                    rw [hBs]
                    refine Wkn.fx ?_ (fun p hp => hp)
                    simp (implicitDefEqProofs := false) (dsimp := false) only [slots, tmLe_nil, tmLe_j, tmLe_s, List.set_cons_zero, List.set_cons_succ, Nat.reduceAdd, Nat.reduceSub, Nat.reduceMul, List.replicate, evK_go, reduceIte, Nat.reduceEqDiff, Nat.reduceLT, List.foldl_cons, List.foldl_nil, Int.cast_ofNat_Int, Int.natCast_add]
                  have d1 := decide_eq_true c1
                  by_cases c2 : 0 ≤ F k j
                  rotate_left
                  · have d2 := decide_eq_false c2
                    simp (implicitDefEqProofs := false) (dsimp := false) (maxSteps := 3000000) only [d1, d2, ↓iaK_c, ↓hFi, ↓hFk, hgi, hgk, hiv, hkv, hva, hia, hka, hja, hlr, hri, hrk, hrj, ffRow, eval_nilI, ↓er_neq0, ↓er_eql0, ↓er_neq, ↓er_eql, ↓bo_eql, ↓bo_neq, lnD_cells, lnN_cells, er_one, er_flat, rflat_U, rflat_nD, rflat_I, rflat_nil, ↓cdK_true, ↓cdK_false, ↓cdK_not, ↓gdK_tt, ↓gdK_tf, ↓gdK_ft, ↓gdK_ff, ↓gdK_junk, ↓gdK_t, ↓gdK_f, ↓gval_mk, ↓gvL_zero, ↓gvL_succ, ↓optK_some, ↓rwK_H, ↓atK_H, ↓atH_map, ↓atH_appmap, ↓nthK_H, ↓nthH_zero, ↓nthH_succ, ↓aw_cond, ↓aw_seq, ↓aw_block, ↓aw_exit, ↓aw_ret, ↓aw_skip, ↓aw_loop, ↓aw_rng, ↓aw_reg, ↓aw_draw, ↓Qseq_n, ↓Qseq_x, ↓Qseq_r, ↓Qblk_n, ↓Qblk_r, ↓Qblk_x, ↓Qblk_here, ↓Qret_r, ↓Qret_n, ↓ops_nil, ↓ops_cons, ↓ops_guard, ↓eval_tmp, ↓eval_int, ↓eval_bool, ↓eval_nil, ↓eval_agg, ↓eval_func, ↓put_some, ↓put_none, ↓bK_b, ↓iK_i, ↓dK_d, ↓dK_nl, ↓lenK_nl, ↓lenK_l, ↓lenK_o, ↓ev_move, ↓ev_assign, ↓ev_pick, ↓ev_load, ↓ev_bin, ↓ev_not, ↓ev_fa, ↓ev_ia, ↓sK_s, ↓tK_t, ↓vK_c, ↓ev_index, ↓ev_extract, ↓ev_iface, ↓ev_func, ↓capsK_nil, ↓capsK_cons, ↓ev_slice, ↓optI_none, ↓optI_some, ↓ev_build, ↓ev_len, ↓ev_max, ↓binE_i, ↓binE_shl, ↓binE_shr, ↓bi_add, ↓bi_sub, ↓bi_mul, ↓bi_quo, ↓bi_rem, ↓bi_eql, ↓bi_neq, ↓bi_lss, ↓bi_leq, ↓bi_gtr, ↓bi_geq, ↓bi_and, ↓bi_or, ↓bi_andNot, ↓bi_shl1, ↓bi_shr, ↓in_i64, ↓in_u64, ↓ldK_q, ↓sboxK_s, ↓ldK_p, ↓ldK_e, ↓faK_q, ↓faK_p, ↓faK_e, ↓iaK_l, ↓iaK_o, ↓sliK_nl, ↓sliK_l, ↓sliK_o, ↓op_move, ↓op_assign, ↓op_pick, ↓op_load, ↓op_bin, ↓op_not, ↓op_fa, ↓op_ia, ↓op_index, ↓op_extract, ↓op_iface, ↓op_func, ↓op_slice, ↓op_build, ↓op_len, ↓op_max, ↓op_append, ↓op_call, ↓op_alloc, ↓op_box, ↓op_store, ↓op_make, ↓orH_T, isD_d, isD_nl, isD_o, isD_p, isD_fp, ↓fnK_f, ↓call_H, ↓callK_H, ↓callKQ_H, ↓allT_nil, ↓allT_cons, ↓allD_nil, ↓allD_cons, ↓td_d, ↓td_nl, ↓td_o, ↓boxK_d, ↓td_p, ↓td_fp, ↓bq_nil, ↓bq_cons, ↓ret_1, ↓ret_2, ↓ret_3, ↓draw_H, ↓h_nil, ↓h_cons, ↓ldH_t, ↓ldH_n, ↓ldH_g, ↓q_call, ↓q_bi, ↓q_bs, ↓q_move, ↓q_assign, ↓q_pick, ↓q_load, ↓q_bin, ↓q_un, ↓q_fa, ↓q_ia, ↓q_index, ↓q_extract, ↓q_iface, ↓q_func, ↓q_slice, ↓q_build, ↓il_move, ↓il_assign, ↓il_pick, ↓il_load, ↓il_bin, ↓il_un, ↓il_fa, ↓il_ia, ↓il_index, ↓il_extract, ↓il_iface, ↓il_func, ↓il_slice, ↓il_build, ↓il_bs, ↓il_call, ↓il_len, ↓il_max, ↓il_append, ↓il_store, ↓il_alloc, ↓il_box, ↓il_make, ↓addBox_mk, ↓addRow_mk, ↓setBox_mk, ↓setRow_mk, ↓app_mk, ↓st_tm, ↓st_bx, ↓st_rw, ↓st_gh, ↓row_sz, ↓row_xs, kill_d, kill_j, kill_nl, kill_p, kill_fp, kill_o, kill_e, kill_junk, ↓cells_i, ↓cells_b, ↓cells_c, ↓cells_s, ↓cells_l, ↓cells_q, ↓vcells_i, ↓vcells_b, ↓vcells_c, ↓vcells_l, ↓vcells_q, ↓vcells_s, ↓vcells_j, ↓vcells_nl, ↓vcells_o, ↓vcells_p, ↓one_i, ↓one_b, ↓one_l, ↓one_q, ↓one_iface, ↓vone_d, ↓vone_nl, ↓vone_o, ↓vone_p, constV_i, constV_b, constV_n, constV_a, ↓st_p, ↓st_e, ↓ap_, ↓ap_nl, ↓ap_o, ↓src_nl, ↓src_l, ↓src_o, ↓mk_, ↓bs_, ↓op_bs, ↓bsL_t, ↓bsL_f, ↓stored_mk, ↓sl_nil, ↓sl_cons, ↓st_store_t, ↓st_store_c, ↓sT_move, ↓sT_assign, ↓sT_pick, ↓sT_load, ↓sT_bin, ↓sT_un, ↓sT_fa, ↓sT_ia, ↓sT_index, ↓sT_extract, ↓sT_iface, ↓sT_func, ↓sT_slice, ↓sT_build, ↓sT_bs, ↓sT_call, ↓sT_alloc, ↓sT_box, ↓sT_make, ↓beq_some, ↓vsz_int, ↓vsz_bool, ↓vsz_slice, ↓vsz_agg, ↓inO_1, ↓inO_2, ↓inO_3, ↓inO_4, ↓fm_nil, ↓fm_cons, ↓take_map, ↓take_all, ↓res_H, ↓resH_d, ↓resH_row, ↓hd_cons, ↓Qrow_n, ↓Qrow_r, ↓rowK_nl, ↓rowK_o, ↓Qn_n, ↓Qrd_n, ↓Qrd_r, ↓Qrd_x, ↓back_mk, ↓ty2, ↓zb2, ↓ty3, ↓zb3, ↓ty4, ↓zb4, ↓ty22, ↓sl22, ↓zb22, ↓ty24, ↓sl24, ↓zb24, ↓ty29, ↓ty40, ↓zb40, ↓fd40_0, ↓fd40_1, ↓bd40, ↓ty41, ↓zb41, ↓fd41_0, ↓fd41_1, ↓bd41, ↓ty45, ↓sl45, ↓zb45, ↓ty46, ↓sl46, ↓zb46, ↓ty69, ↓sl69, ↓zb69, ↓ty90, ↓zb90, ↓fd90_0, ↓fd90_1, ↓bd90, ↓ty91, ↓zb91, ↓fd91_0, ↓fd91_1, ↓bd91, ↓ty92, ↓zb92, ↓fd92_0, ↓fd92_1, ↓bd92, ↓ty93, ↓zb93, ↓fd93_0, ↓fd93_1, ↓bd93, ↓ty99, ↓sl99, ↓zb99, ↓ty101, ↓zb101, ↓ty102, ↓zb102, ↓ty108, ↓zb108, ↓nc108, ↓ty114, ↓zb114, ↓ar114, ↓bd114, ↓ty118, ↓zb118, ↓ar118, ↓bd118, ↓ty126, ↓ty153, ↓sl153, ↓zb153, ↓ty176, ↓zb176, ↓ty183, List.getD_cons_zero, List.getD_cons_succ, List.set_cons_zero, List.set_cons_succ, List.cons_append, List.nil_append, List.append_nil, List.map_cons, List.map_nil, List.length_cons, List.length_nil, List.length_map, List.all_cons, List.all_nil, Bool.and_true, Bool.true_and, Bool.and_self, Bool.and_false, Bool.false_and, Bool.or_true, Bool.true_or, Bool.or_false, Bool.false_or, Nat.reduceAdd, Nat.reduceSub, Nat.reduceMul, Nat.zero_add, Nat.add_zero, Int.toNat_natCast, Int.toNat_zero, Int.toNat_one, List.replicate, evK_go, reduceIte, decide_true, decide_false, Bool.not_true, Bool.not_false, Nat.reduceEqDiff, Nat.reduceLT, and_self, true_and, and_true, ne_eq, not_true_eq_false, not_false_eq_true, Nat.lt_irrefl, Option.getD_none, Option.getD_some, Nat.add_eq, Int.zero_add, List.length_replicate, List.drop_zero, List.take_succ_cons, List.drop_succ_cons, List.take_zero, List.take_nil, List.drop_nil, List.foldl_cons, List.foldl_nil, List.toList_toArray, Int.cast_ofNat_Int, Int.natCast_add, Int.ofNat_lt, Int.ofNat_le, Int.natCast_nonneg, Int.natCast_inj]
                    refine OrH.l ⟨DrawH.of follows_mixed (by kernel_rfl), ?_⟩
                    rw [relF, if_neg (by omega)] at hBs
                    refine ⟨by omega, j + 1, by omega, by omega, ?_⟩
                    rw [hBs]
                    refine Wkn.fx ?_ (fun p hp => hp)
                    simp (implicitDefEqProofs := false) (dsimp := false) only [slots, tmLe_nil, tmLe_j, tmLe_s, List.set_cons_zero, List.set_cons_succ, Nat.reduceAdd, Nat.reduceSub, Nat.reduceMul, List.replicate, evK_go, reduceIte, Nat.reduceEqDiff, Nat.reduceLT, List.foldl_cons, List.foldl_nil, Int.cast_ofNat_Int, Int.natCast_add]
                  have d2 := decide_eq_true c2
                  by_cases c3 : F i j < 0
                  · have d3 := decide_eq_true c3
                    simp (implicitDefEqProofs := false) (dsimp := false) (maxSteps := 3000000) only [d1, d2, d3, ↓iaK_c, ↓hFi, ↓hFk, hgi, hgk, hiv, hkv, hva, hia, hka, hja, hlr, hri, hrk, hrj, ffRow, eval_nilI, ↓er_neq0, ↓er_eql0, ↓er_neq, ↓er_eql, ↓bo_eql, ↓bo_neq, lnD_cells, lnN_cells, er_one, er_flat, rflat_U, rflat_nD, rflat_I, rflat_nil, ↓cdK_true, ↓cdK_false, ↓cdK_not, ↓gdK_tt, ↓gdK_tf, ↓gdK_ft, ↓gdK_ff, ↓gdK_junk, ↓gdK_t, ↓gdK_f, ↓gval_mk, ↓gvL_zero, ↓gvL_succ, ↓optK_some, ↓rwK_H, ↓atK_H, ↓atH_map, ↓atH_appmap, ↓nthK_H, ↓nthH_zero, ↓nthH_succ, ↓aw_cond, ↓aw_seq, ↓aw_block, ↓aw_exit, ↓aw_ret, ↓aw_skip, ↓aw_loop, ↓aw_rng, ↓aw_reg, ↓aw_draw, ↓Qseq_n, ↓Qseq_x, ↓Qseq_r, ↓Qblk_n, ↓Qblk_r, ↓Qblk_x, ↓Qblk_here, ↓Qret_r, ↓Qret_n, ↓ops_nil, ↓ops_cons, ↓ops_guard, ↓eval_tmp, ↓eval_int, ↓eval_bool, ↓eval_nil, ↓eval_agg, ↓eval_func, ↓put_some, ↓put_none, ↓bK_b, ↓iK_i, ↓dK_d, ↓dK_nl, ↓lenK_nl, ↓lenK_l, ↓lenK_o, ↓ev_move, ↓ev_assign, ↓ev_pick, ↓ev_load, ↓ev_bin, ↓ev_not, ↓ev_fa, ↓ev_ia, ↓sK_s, ↓tK_t, ↓vK_c, ↓ev_index, ↓ev_extract, ↓ev_iface, ↓ev_func, ↓capsK_nil, ↓capsK_cons, ↓ev_slice, ↓optI_none, ↓optI_some, ↓ev_build, ↓ev_len, ↓ev_max, ↓binE_i, ↓binE_shl, ↓binE_shr, ↓bi_add, ↓bi_sub, ↓bi_mul, ↓bi_quo, ↓bi_rem, ↓bi_eql, ↓bi_neq, ↓bi_lss, ↓bi_leq, ↓bi_gtr, ↓bi_geq, ↓bi_and, ↓bi_or, ↓bi_andNot, ↓bi_shl1, ↓bi_shr, ↓in_i64, ↓in_u64, ↓ldK_q, ↓sboxK_s, ↓ldK_p, ↓ldK_e, ↓faK_q, ↓faK_p, ↓faK_e, ↓iaK_l, ↓iaK_o, ↓sliK_nl, ↓sliK_l, ↓sliK_o, ↓op_move, ↓op_assign, ↓op_pick, ↓op_load, ↓op_bin, ↓op_not, ↓op_fa, ↓op_ia, ↓op_index, ↓op_extract, ↓op_iface, ↓op_func, ↓op_slice, ↓op_build, ↓op_len, ↓op_max, ↓op_append, ↓op_call, ↓op_alloc, ↓op_box, ↓op_store, ↓op_make, ↓orH_T, isD_d, isD_nl, isD_o, isD_p, isD_fp, ↓fnK_f, ↓call_H, ↓callK_H, ↓callKQ_H, ↓allT_nil, ↓allT_cons, ↓allD_nil, ↓allD_cons, ↓td_d, ↓td_nl, ↓td_o, ↓boxK_d, ↓td_p, ↓td_fp, ↓bq_nil, ↓bq_cons, ↓ret_1, ↓ret_2, ↓ret_3, ↓draw_H, ↓h_nil, ↓h_cons, ↓ldH_t, ↓ldH_n, ↓ldH_g, ↓q_call, ↓q_bi, ↓q_bs, ↓q_move, ↓q_assign, ↓q_pick, ↓q_load, ↓q_bin, ↓q_un, ↓q_fa, ↓q_ia, ↓q_index, ↓q_extract, ↓q_iface, ↓q_func, ↓q_slice, ↓q_build, ↓il_move, ↓il_assign, ↓il_pick, ↓il_load, ↓il_bin, ↓il_un, ↓il_fa, ↓il_ia, ↓il_index, ↓il_extract, ↓il_iface, ↓il_func, ↓il_slice, ↓il_build, ↓il_bs, ↓il_call, ↓il_len, ↓il_max, ↓il_append, ↓il_store, ↓il_alloc, ↓il_box, ↓il_make, ↓addBox_mk, ↓addRow_mk, ↓setBox_mk, ↓setRow_mk, ↓app_mk, ↓st_tm, ↓st_bx, ↓st_rw, ↓st_gh, ↓row_sz, ↓row_xs, kill_d, kill_j, kill_nl, kill_p, kill_fp, kill_o, kill_e, kill_junk, ↓cells_i, ↓cells_b, ↓cells_c, ↓cells_s, ↓cells_l, ↓cells_q, ↓vcells_i, ↓vcells_b, ↓vcells_c, ↓vcells_l, ↓vcells_q, ↓vcells_s, ↓vcells_j, ↓vcells_nl, ↓vcells_o, ↓vcells_p, ↓one_i, ↓one_b, ↓one_l, ↓one_q, ↓one_iface, ↓vone_d, ↓vone_nl, ↓vone_o, ↓vone_p, constV_i, constV_b, constV_n, constV_a, ↓st_p, ↓st_e, ↓ap_, ↓ap_nl, ↓ap_o, ↓src_nl, ↓src_l, ↓src_o, ↓mk_, ↓bs_, ↓op_bs, ↓bsL_t, ↓bsL_f, ↓stored_mk, ↓sl_nil, ↓sl_cons, ↓st_store_t, ↓st_store_c, ↓sT_move, ↓sT_assign, ↓sT_pick, ↓sT_load, ↓sT_bin, ↓sT_un, ↓sT_fa, ↓sT_ia, ↓sT_index, ↓sT_extract, ↓sT_iface, ↓sT_func, ↓sT_slice, ↓sT_build, ↓sT_bs, ↓sT_call, ↓sT_alloc, ↓sT_box, ↓sT_make, ↓beq_some, ↓vsz_int, ↓vsz_bool, ↓vsz_slice, ↓vsz_agg, ↓inO_1, ↓inO_2, ↓inO_3, ↓inO_4, ↓fm_nil, ↓fm_cons, ↓take_map, ↓take_all, ↓res_H, ↓resH_d, ↓resH_row, ↓hd_cons, ↓Qrow_n, ↓Qrow_r, ↓rowK_nl, ↓rowK_o, ↓Qn_n, ↓Qrd_n, ↓Qrd_r, ↓Qrd_x, ↓back_mk, ↓ty2, ↓zb2, ↓ty3, ↓zb3, ↓ty4, ↓zb4, ↓ty22, ↓sl22, ↓zb22, ↓ty24, ↓sl24, ↓zb24, ↓ty29, ↓ty40, ↓zb40, ↓fd40_0, ↓fd40_1, ↓bd40, ↓ty41, ↓zb41, ↓fd41_0, ↓fd41_1, ↓bd41, ↓ty45, ↓sl45, ↓zb45, ↓ty46, ↓sl46, ↓zb46, ↓ty69, ↓sl69, ↓zb69, ↓ty90, ↓zb90, ↓fd90_0, ↓fd90_1, ↓bd90, ↓ty91, ↓zb91, ↓fd91_0, ↓fd91_1, ↓bd91, ↓ty92, ↓zb92, ↓fd92_0, ↓fd92_1, ↓bd92, ↓ty93, ↓zb93, ↓fd93_0, ↓fd93_1, ↓bd93, ↓ty99, ↓sl99, ↓zb99, ↓ty101, ↓zb101, ↓ty102, ↓zb102, ↓ty108, ↓zb108, ↓nc108, ↓ty114, ↓zb114, ↓ar114, ↓bd114, ↓ty118, ↓zb118, ↓ar118, ↓bd118, ↓ty126, ↓ty153, ↓sl153, ↓zb153, ↓ty176, ↓zb176, ↓ty183, List.getD_cons_zero, List.getD_cons_succ, List.set_cons_zero, List.set_cons_succ, List.cons_append, List.nil_append, List.append_nil, List.map_cons, List.map_nil, List.length_cons, List.length_nil, List.length_map, List.all_cons, List.all_nil, Bool.and_true, Bool.true_and, Bool.and_self, Bool.and_false, Bool.false_and, Bool.or_true, Bool.true_or, Bool.or_false, Bool.false_or, Nat.reduceAdd, Nat.reduceSub, Nat.reduceMul, Nat.zero_add, Nat.add_zero, Int.toNat_natCast, Int.toNat_zero, Int.toNat_one, List.replicate, evK_go, reduceIte, decide_true, decide_false, Bool.not_true, Bool.not_false, Nat.reduceEqDiff, Nat.reduceLT, and_self, true_and, and_true, ne_eq, not_true_eq_false, not_false_eq_true, Nat.lt_irrefl, Option.getD_none, Option.getD_some, Nat.add_eq, Int.zero_add, List.length_replicate, List.drop_zero, List.take_succ_cons, List.drop_succ_cons, List.take_zero, List.take_nil, List.drop_nil, List.foldl_cons, List.foldl_nil, List.toList_toArray, Int.cast_ofNat_Int, Int.natCast_add, Int.ofNat_lt, Int.ofNat_le, Int.natCast_nonneg, Int.natCast_inj]
                    refine OrH.l ⟨DrawH.of follows_mixed (by kernel_rfl), ?_⟩
                    rw [relF, if_pos (by omega)] at hBs
                    refine OrH.l ⟨DrawH.of follows_mixed (by kernel_rfl), ⟨by omega, by omega⟩, ⟨by omega, by omega⟩, j + 1, by omega, by omega, ?_⟩
                    have hset : (ffRows a a F).set i (some ⟨1, (List.map (fun b => I .i64 (F i b)) (List.range a)).set j (I .i64 (F i k + F k j))⟩) = ffRows a a (updF F i j (F i k + F k j)) := by
                      rw [show (List.map (fun b => I .i64 (F i b)) (List.range a)) = ffRow a (F i) from rfl, ffRow_set]
                      exact ffRows_set F _
                    rw [hBs, hset]
                    refine Wkn.fx ?_ (fun p hp => hp)
                    simp (implicitDefEqProofs := false) (dsimp := false) only [slots, tmLe_nil, tmLe_j, tmLe_s, List.set_cons_zero, List.set_cons_succ, Nat.reduceAdd, Nat.reduceSub, Nat.reduceMul, List.replicate, evK_go, reduceIte, Nat.reduceEqDiff, Nat.reduceLT, List.foldl_cons, List.foldl_nil, Int.cast_ofNat_Int, Int.natCast_add]
                  have d3 := decide_eq_false c3
                  by_cases c4 : F i k + F k j < F i j
                  · have d4 := decide_eq_true c4
                    simp (implicitDefEqProofs := false) (dsimp := false) (maxSteps := 3000000) only [d1, d2, d3, d4, ↓iaK_c, ↓hFi, ↓hFk, hgi, hgk, hiv, hkv, hva, hia, hka, hja, hlr, hri, hrk, hrj, ffRow, eval_nilI, ↓er_neq0, ↓er_eql0, ↓er_neq, ↓er_eql, ↓bo_eql, ↓bo_neq, lnD_cells, lnN_cells, er_one, er_flat, rflat_U, rflat_nD, rflat_I, rflat_nil, ↓cdK_true, ↓cdK_false, ↓cdK_not, ↓gdK_tt, ↓gdK_tf, ↓gdK_ft, ↓gdK_ff, ↓gdK_junk, ↓gdK_t, ↓gdK_f, ↓gval_mk, ↓gvL_zero, ↓gvL_succ, ↓optK_some, ↓rwK_H, ↓atK_H, ↓atH_map, ↓atH_appmap, ↓nthK_H, ↓nthH_zero, ↓nthH_succ, ↓aw_cond, ↓aw_seq, ↓aw_block, ↓aw_exit, ↓aw_ret, ↓aw_skip, ↓aw_loop, ↓aw_rng, ↓aw_reg, ↓aw_draw, ↓Qseq_n, ↓Qseq_x, ↓Qseq_r, ↓Qblk_n, ↓Qblk_r, ↓Qblk_x, ↓Qblk_here, ↓Qret_r, ↓Qret_n, ↓ops_nil, ↓ops_cons, ↓ops_guard, ↓eval_tmp, ↓eval_int, ↓eval_bool, ↓eval_nil, ↓eval_agg, ↓eval_func, ↓put_some, ↓put_none, ↓bK_b, ↓iK_i, ↓dK_d, ↓dK_nl, ↓lenK_nl, ↓lenK_l, ↓lenK_o, ↓ev_move, ↓ev_assign, ↓ev_pick, ↓ev_load, ↓ev_bin, ↓ev_not, ↓ev_fa, ↓ev_ia, ↓sK_s, ↓tK_t, ↓vK_c, ↓ev_index, ↓ev_extract, ↓ev_iface, ↓ev_func, ↓capsK_nil, ↓capsK_cons, ↓ev_slice, ↓optI_none, ↓optI_some, ↓ev_build, ↓ev_len, ↓ev_max, ↓binE_i, ↓binE_shl, ↓binE_shr, ↓bi_add, ↓bi_sub, ↓bi_mul, ↓bi_quo, ↓bi_rem, ↓bi_eql, ↓bi_neq, ↓bi_lss, ↓bi_leq, ↓bi_gtr, ↓bi_geq, ↓bi_and, ↓bi_or, ↓bi_andNot, ↓bi_shl1, ↓bi_shr, ↓in_i64, ↓in_u64, ↓ldK_q, ↓sboxK_s, ↓ldK_p, ↓ldK_e, ↓faK_q, ↓faK_p, ↓faK_e, ↓iaK_l, ↓iaK_o, ↓sliK_nl, ↓sliK_l, ↓sliK_o, ↓op_move, ↓op_assign, ↓op_pick, ↓op_load, ↓op_bin, ↓op_not, ↓op_fa, ↓op_ia, ↓op_index, ↓op_extract, ↓op_iface, ↓op_func, ↓op_slice, ↓op_build, ↓op_len, ↓op_max, ↓op_append, ↓op_call, ↓op_alloc, ↓op_box, ↓op_store, ↓op_make, ↓orH_T, isD_d, isD_nl, isD_o, isD_p, isD_fp, ↓fnK_f, ↓call_H, ↓callK_H, ↓callKQ_H, ↓allT_nil, ↓allT_cons, ↓allD_nil, ↓allD_cons, ↓td_d, ↓td_nl, ↓td_o, ↓boxK_d, ↓td_p, ↓td_fp, ↓bq_nil, ↓bq_cons, ↓ret_1, ↓ret_2, ↓ret_3, ↓draw_H, ↓h_nil, ↓h_cons, ↓ldH_t, ↓ldH_n, ↓ldH_g, ↓q_call, ↓q_bi, ↓q_bs, ↓q_move, ↓q_assign, ↓q_pick, ↓q_load, ↓q_bin, ↓q_un, ↓q_fa, ↓q_ia, ↓q_index, ↓q_extract, ↓q_iface, ↓q_func, ↓q_slice, ↓q_build, ↓il_move, ↓il_assign, ↓il_pick, ↓il_load, ↓il_bin, ↓il_un, ↓il_fa, ↓il_ia, ↓il_index, ↓il_extract, ↓il_iface, ↓il_func, ↓il_slice, ↓il_build, ↓il_bs, ↓il_call, ↓il_len, ↓il_max, ↓il_append, ↓il_store, ↓il_alloc, ↓il_box, ↓il_make, ↓addBox_mk, ↓addRow_mk, ↓setBox_mk, ↓setRow_mk, ↓app_mk, ↓st_tm, ↓st_bx, ↓st_rw, ↓st_gh, ↓row_sz, ↓row_xs, kill_d, kill_j, kill_nl, kill_p, kill_fp, kill_o, kill_e, kill_junk, ↓cells_i, ↓cells_b, ↓cells_c, ↓cells_s, ↓cells_l, ↓cells_q, ↓vcells_i, ↓vcells_b, ↓vcells_c, ↓vcells_l, ↓vcells_q, ↓vcells_s, ↓vcells_j, ↓vcells_nl, ↓vcells_o, ↓vcells_p, ↓one_i, ↓one_b, ↓one_l, ↓one_q, ↓one_iface, ↓vone_d, ↓vone_nl, ↓vone_o, ↓vone_p, constV_i, constV_b, constV_n, constV_a, ↓st_p, ↓st_e, ↓ap_, ↓ap_nl, ↓ap_o, ↓src_nl, ↓src_l, ↓src_o, ↓mk_, ↓bs_, ↓op_bs, ↓bsL_t, ↓bsL_f, ↓stored_mk, ↓sl_nil, ↓sl_cons, ↓st_store_t, ↓st_store_c, ↓sT_move, ↓sT_assign, ↓sT_pick, ↓sT_load, ↓sT_bin, ↓sT_un, ↓sT_fa, ↓sT_ia, ↓sT_index, ↓sT_extract, ↓sT_iface, ↓sT_func, ↓sT_slice, ↓sT_build, ↓sT_bs, ↓sT_call, ↓sT_alloc, ↓sT_box, ↓sT_make, ↓beq_some, ↓vsz_int, ↓vsz_bool, ↓vsz_slice, ↓vsz_agg, ↓inO_1, ↓inO_2, ↓inO_3, ↓inO_4, ↓fm_nil, ↓fm_cons, ↓take_map, ↓take_all, ↓res_H, ↓resH_d, ↓resH_row, ↓hd_cons, ↓Qrow_n, ↓Qrow_r, ↓rowK_nl, ↓rowK_o, ↓Qn_n, ↓Qrd_n, ↓Qrd_r, ↓Qrd_x, ↓back_mk, ↓ty2, ↓zb2, ↓ty3, ↓zb3, ↓ty4, ↓zb4, ↓ty22, ↓sl22, ↓zb22, ↓ty24, ↓sl24, ↓zb24, ↓ty29, ↓ty40, ↓zb40, ↓fd40_0, ↓fd40_1, ↓bd40, ↓ty41, ↓zb41, ↓fd41_0, ↓fd41_1, ↓bd41, ↓ty45, ↓sl45, ↓zb45, ↓ty46, ↓sl46, ↓zb46, ↓ty69, ↓sl69, ↓zb69, ↓ty90, ↓zb90, ↓fd90_0, ↓fd90_1, ↓bd90, ↓ty91, ↓zb91, ↓fd91_0, ↓fd91_1, ↓bd91, ↓ty92, ↓zb92, ↓fd92_0, ↓fd92_1, ↓bd92, ↓ty93, ↓zb93, ↓fd93_0, ↓fd93_1, ↓bd93, ↓ty99, ↓sl99, ↓zb99, ↓ty101, ↓zb101, ↓ty102, ↓zb102, ↓ty108, ↓zb108, ↓nc108, ↓ty114, ↓zb114, ↓ar114, ↓bd114, ↓ty118, ↓zb118, ↓ar118, ↓bd118, ↓ty126, ↓ty153, ↓sl153, ↓zb153, ↓ty176, ↓zb176, ↓ty183, List.getD_cons_zero, List.getD_cons_succ, List.set_cons_zero, List.set_cons_succ, List.cons_append, List.nil_append, List.append_nil, List.map_cons, List.map_nil, List.length_cons, List.length_nil, List.length_map, List.all_cons, List.all_nil, Bool.and_true, Bool.true_and, Bool.and_self, Bool.and_false, Bool.false_and, Bool.or_true, Bool.true_or, Bool.or_false, Bool.false_or, Nat.reduceAdd, Nat.reduceSub, Nat.reduceMul, Nat.zero_add, Nat.add_zero, Int.toNat_natCast, Int.toNat_zero, Int.toNat_one, List.replicate, evK_go, reduceIte, decide_true, decide_false, Bool.not_true, Bool.not_false, Nat.reduceEqDiff, Nat.reduceLT, and_self, true_and, and_true, ne_eq, not_true_eq_false, not_false_eq_true, Nat.lt_irrefl, Option.getD_none, Option.getD_some, Nat.add_eq, Int.zero_add, List.length_replicate, List.drop_zero, List.take_succ_cons, List.drop_succ_cons, List.take_zero, List.take_nil, List.drop_nil, List.foldl_cons, List.foldl_nil, List.toList_toArray, Int.cast_ofNat_Int, Int.natCast_add, Int.ofNat_lt, Int.ofNat_le, Int.natCast_nonneg, Int.natCast_inj]
                    refine OrH.l ⟨DrawH.of follows_mixed (by kernel_rfl), ?_⟩
                    refine ⟨by omega, ?_⟩
                    rw [relF, if_pos (by omega)] at hBs
                    refine OrH.l ⟨DrawH.of follows_mixed (by kernel_rfl), ⟨by omega, by omega⟩, ⟨by omega, by omega⟩, j + 1, by omega, by omega, ?_⟩
                    have hset : (ffRows a a F).set i (some ⟨1, (List.map (fun b => I .i64 (F i b)) (List.range a)).set j (I .i64 (F i k + F k j))⟩) = ffRows a a (updF F i j (F i k + F k j)) := by
                      rw [show (List.map (fun b => I .i64 (F i b)) (List.range a)) = ffRow a (F i) from rfl, ffRow_set]
                      exact ffRows_set F _
                    rw [hBs, hset]
                    refine Wkn.fx ?_ (fun p hp => hp)
                    simp (implicitDefEqProofs := false) (dsimp := false) only [slots, tmLe_nil, tmLe_j, tmLe_s, List.set_cons_zero, List.set_cons_succ, Nat.reduceAdd, Nat.reduceSub, Nat.reduceMul, List.replicate, evK_go, reduceIte, Nat.reduceEqDiff, Nat.reduceLT, List.foldl_cons, List.foldl_nil, Int.cast_ofNat_Int, Int.natCast_add]
                  · have d4 := decide_eq_false c4
                    simp (implicitDefEqProofs := false) (dsimp := false) (maxSteps := 3000000) only [d1, d2, d3, d4, ↓iaK_c, ↓hFi, ↓hFk, hgi, hgk, hiv, hkv, hva, hia, hka, hja, hlr, hri, hrk, hrj, ffRow, eval_nilI, ↓er_neq0, ↓er_eql0, ↓er_neq, ↓er_eql, ↓bo_eql, ↓bo_neq, lnD_cells, lnN_cells, er_one, er_flat, rflat_U, rflat_nD, rflat_I, rflat_nil, ↓cdK_true, ↓cdK_false, ↓cdK_not, ↓gdK_tt, ↓gdK_tf, ↓gdK_ft, ↓gdK_ff, ↓gdK_junk, ↓gdK_t, ↓gdK_f, ↓gval_mk, ↓gvL_zero, ↓gvL_succ, ↓optK_some, ↓rwK_H, ↓atK_H, ↓atH_map, ↓atH_appmap, ↓nthK_H, ↓nthH_zero, ↓nthH_succ, ↓aw_cond, ↓aw_seq, ↓aw_block, ↓aw_exit, ↓aw_ret, ↓aw_skip, ↓aw_loop, ↓aw_rng, ↓aw_reg, ↓aw_draw, ↓Qseq_n, ↓Qseq_x, ↓Qseq_r, ↓Qblk_n, ↓Qblk_r, ↓Qblk_x, ↓Qblk_here, ↓Qret_r, ↓Qret_n, ↓ops_nil, ↓ops_cons, ↓ops_guard, ↓eval_tmp, ↓eval_int, ↓eval_bool, ↓eval_nil, ↓eval_agg, ↓eval_func, ↓put_some, ↓put_none, ↓bK_b, ↓iK_i, ↓dK_d, ↓dK_nl, ↓lenK_nl, ↓lenK_l, ↓lenK_o, ↓ev_move, ↓ev_assign, ↓ev_pick, ↓ev_load, ↓ev_bin, ↓ev_not, ↓ev_fa, ↓ev_ia, ↓sK_s, ↓tK_t, ↓vK_c, ↓ev_index, ↓ev_extract, ↓ev_iface, ↓ev_func, ↓capsK_nil, ↓capsK_cons, ↓ev_slice, ↓optI_none, ↓optI_some, ↓ev_build, ↓ev_len, ↓ev_max, ↓binE_i, ↓binE_shl, ↓binE_shr, ↓bi_add, ↓bi_sub, ↓bi_mul, ↓bi_quo, ↓bi_rem, ↓bi_eql, ↓bi_neq, ↓bi_lss, ↓bi_leq, ↓bi_gtr, ↓bi_geq, ↓bi_and, ↓bi_or, ↓bi_andNot, ↓bi_shl1, ↓bi_shr, ↓in_i64, ↓in_u64, ↓ldK_q, ↓sboxK_s, ↓ldK_p, ↓ldK_e, ↓faK_q, ↓faK_p, ↓faK_e, ↓iaK_l, ↓iaK_o, ↓sliK_nl, ↓sliK_l, ↓sliK_o, ↓op_move, ↓op_assign, ↓op_pick, ↓op_load, ↓op_bin, ↓op_not, ↓op_fa, ↓op_ia, ↓op_index, ↓op_extract, ↓op_iface, ↓op_func, ↓op_slice, ↓op_build, ↓op_len, ↓op_max, ↓op_append, ↓op_call, ↓op_alloc, ↓op_box, ↓op_store, ↓op_make, ↓orH_T, isD_d, isD_nl, isD_o, isD_p, isD_fp, ↓fnK_f, ↓call_H, ↓callK_H, ↓callKQ_H, ↓allT_nil, ↓allT_cons, ↓allD_nil, ↓allD_cons, ↓td_d, ↓td_nl, ↓td_o, ↓boxK_d, ↓td_p, ↓td_fp, ↓bq_nil, ↓bq_cons, ↓ret_1, ↓ret_2, ↓ret_3, ↓draw_H, ↓h_nil, ↓h_cons, ↓ldH_t, ↓ldH_n, ↓ldH_g, ↓q_call, ↓q_bi, ↓q_bs, ↓q_move, ↓q_assign, ↓q_pick, ↓q_load, ↓q_bin, ↓q_un, ↓q_fa, ↓q_ia, ↓q_index, ↓q_extract, ↓q_iface, ↓q_func, ↓q_slice, ↓q_build, ↓il_move, ↓il_assign, ↓il_pick, ↓il_load, ↓il_bin, ↓il_un, ↓il_fa, ↓il_ia, ↓il_index, ↓il_extract, ↓il_iface, ↓il_func, ↓il_slice, ↓il_build, ↓il_bs, ↓il_call, ↓il_len, ↓il_max, ↓il_append, ↓il_store, ↓il_alloc, ↓il_box, ↓il_make, ↓addBox_mk, ↓addRow_mk, ↓setBox_mk, ↓setRow_mk, ↓app_mk, ↓st_tm, ↓st_bx, ↓st_rw, ↓st_gh, ↓row_sz, ↓row_xs, kill_d, kill_j, kill_nl, kill_p, kill_fp, kill_o, kill_e, kill_junk, ↓cells_i, ↓cells_b, ↓cells_c, ↓cells_s, ↓cells_l, ↓cells_q, ↓vcells_i, ↓vcells_b, ↓vcells_c, ↓vcells_l, ↓vcells_q, ↓vcells_s, ↓vcells_j, ↓vcells_nl, ↓vcells_o, ↓vcells_p, ↓one_i, ↓one_b, ↓one_l, ↓one_q, ↓one_iface, ↓vone_d, ↓vone_nl, ↓vone_o, ↓vone_p, constV_i, constV_b, constV_n, constV_a, ↓st_p, ↓st_e, ↓ap_, ↓ap_nl, ↓ap_o, ↓src_nl, ↓src_l, ↓src_o, ↓mk_, ↓bs_, ↓op_bs, ↓bsL_t, ↓bsL_f, ↓stored_mk, ↓sl_nil, ↓sl_cons, ↓st_store_t, ↓st_store_c, ↓sT_move, ↓sT_assign, ↓sT_pick, ↓sT_load, ↓sT_bin, ↓sT_un, ↓sT_fa, ↓sT_ia, ↓sT_index, ↓sT_extract, ↓sT_iface, ↓sT_func, ↓sT_slice, ↓sT_build, ↓sT_bs, ↓sT_call, ↓sT_alloc, ↓sT_box, ↓sT_make, ↓beq_some, ↓vsz_int, ↓vsz_bool, ↓vsz_slice, ↓vsz_agg, ↓inO_1, ↓inO_2, ↓inO_3, ↓inO_4, ↓fm_nil, ↓fm_cons, ↓take_map, ↓take_all, ↓res_H, ↓resH_d, ↓resH_row, ↓hd_cons, ↓Qrow_n, ↓Qrow_r, ↓rowK_nl, ↓rowK_o, ↓Qn_n, ↓Qrd_n, ↓Qrd_r, ↓Qrd_x, ↓back_mk, ↓ty2, ↓zb2, ↓ty3, ↓zb3, ↓ty4, ↓zb4, ↓ty22, ↓sl22, ↓zb22, ↓ty24, ↓sl24, ↓zb24, ↓ty29, ↓ty40, ↓zb40, ↓fd40_0, ↓fd40_1, ↓bd40, ↓ty41, ↓zb41, ↓fd41_0, ↓fd41_1, ↓bd41, ↓ty45, ↓sl45, ↓zb45, ↓ty46, ↓sl46, ↓zb46, ↓ty69, ↓sl69, ↓zb69, ↓ty90, ↓zb90, ↓fd90_0, ↓fd90_1, ↓bd90, ↓ty91, ↓zb91, ↓fd91_0, ↓fd91_1, ↓bd91, ↓ty92, ↓zb92, ↓fd92_0, ↓fd92_1, ↓bd92, ↓ty93, ↓zb93, ↓fd93_0, ↓fd93_1, ↓bd93, ↓ty99, ↓sl99, ↓zb99, ↓ty101, ↓zb101, ↓ty102, ↓zb102, ↓ty108, ↓zb108, ↓nc108, ↓ty114, ↓zb114, ↓ar114, ↓bd114, ↓ty118, ↓zb118, ↓ar118, ↓bd118, ↓ty126, ↓ty153, ↓sl153, ↓zb153, ↓ty176, ↓zb176, ↓ty183, List.getD_cons_zero, List.getD_cons_succ, List.set_cons_zero, List.set_cons_succ, List.cons_append, List.nil_append, List.append_nil, List.map_cons, List.map_nil, List.length_cons, List.length_nil, List.length_map, List.all_cons, List.all_nil, Bool.and_true, Bool.true_and, Bool.and_self, Bool.and_false, Bool.false_and, Bool.or_true, Bool.true_or, Bool.or_false, Bool.false_or, Nat.reduceAdd, Nat.reduceSub, Nat.reduceMul, Nat.zero_add, Nat.add_zero, Int.toNat_natCast, Int.toNat_zero, Int.toNat_one, List.replicate, evK_go, reduceIte, decide_true, decide_false, Bool.not_true, Bool.not_false, Nat.reduceEqDiff, Nat.reduceLT, and_self, true_and, and_true, ne_eq, not_true_eq_false, not_false_eq_true, Nat.lt_irrefl, Option.getD_none, Option.getD_some, Nat.add_eq, Int.zero_add, List.length_replicate, List.drop_zero, List.take_succ_cons, List.drop_succ_cons, List.take_zero, List.take_nil, List.drop_nil, List.foldl_cons, List.foldl_nil, List.toList_toArray, Int.cast_ofNat_Int, Int.natCast_add, Int.ofNat_lt, Int.ofNat_le, Int.natCast_nonneg, Int.natCast_inj]
                    refine OrH.l ⟨DrawH.of follows_mixed (by kernel_rfl), ?_⟩
                    rw [relF, if_neg (by omega)] at hBs
                    refine ⟨by omega, ?_⟩
                    refine ⟨by omega, j + 1, by omega, by omega, ?_⟩
                    rw [hBs]
                    refine Wkn.fx ?_ (fun p hp => hp)
                    simp (implicitDefEqProofs := false) (dsimp := false) only [slots, tmLe_nil, tmLe_j, tmLe_s, List.set_cons_zero, List.set_cons_succ, Nat.reduceAdd, Nat.reduceSub, Nat.reduceMul, List.replicate, evK_go, reduceIte, Nat.reduceEqDiff, Nat.reduceLT, List.foldl_cons, List.foldl_nil, Int.cast_ofNat_Int, Int.natCast_add]
                · obtain rfl : j = a := by omega
                  simp (implicitDefEqProofs := false) (dsimp := false) only [↓aw_exit, ↓aw_reg, ↓Qseq_n, ↓Qseq_x, ↓Qblk_n, ↓Qblk_x, ↓ops_nil, ↓ops_cons, ↓eval_tmp, ↓eval_int, ↓put_some, ↓binE_i, ↓bi_add, ↓in_i64, ↓op_move, ↓op_assign, ↓op_bin, List.getD_cons_zero, List.getD_cons_succ, List.set_cons_zero, List.set_cons_succ, Bool.true_and, Nat.reduceAdd, Nat.reduceSub, Nat.reduceMul, evK_go, reduceIte, decide_false, Nat.reduceEqDiff, Nat.reduceLT, true_and, Nat.lt_irrefl]
                  refine ⟨by omega, i + 1, by omega, by omega, ?_⟩
                  rw [hAs]
                  refine Wkn.fx ?_ (fun p hp => hp)
                  simp (implicitDefEqProofs := false) (dsimp := false) only [slots, tmLe_nil, tmLe_j, tmLe_s, List.set_cons_zero, List.set_cons_succ, Nat.reduceAdd, Nat.reduceSub, Nat.reduceMul, List.replicate, evK_go, reduceIte, Nat.reduceEqDiff, Nat.reduceLT, List.foldl_cons, List.foldl_nil, Int.cast_ofNat_Int, Int.natCast_add]
            · obtain rfl : i = a := by omega
              simp (implicitDefEqProofs := false) (dsimp := false) only [↓aw_exit, ↓aw_reg, ↓Qseq_n, ↓Qseq_x, ↓Qblk_n, ↓Qblk_x, ↓ops_nil, ↓ops_cons, ↓eval_tmp, ↓eval_int, ↓put_some, ↓binE_i, ↓bi_add, ↓in_i64, ↓op_move, ↓op_assign, ↓op_bin, List.getD_cons_zero, List.getD_cons_succ, List.set_cons_zero, List.set_cons_succ, Bool.true_and, Nat.reduceAdd, Nat.reduceSub, Nat.reduceMul, evK_go, reduceIte, decide_false, Nat.reduceEqDiff, Nat.reduceLT, true_and, Nat.lt_irrefl]
              refine ⟨by omega, k + 1, by omega, by omega, ?_⟩
              rw [hKs]
              refine Wkn.fx ?_ (fun p hp => hp)
              simp (implicitDefEqProofs := false) (dsimp := false) only [slots, tmLe_nil, tmLe_j, tmLe_s, List.set_cons_zero, List.set_cons_succ, Nat.reduceAdd, Nat.reduceSub, Nat.reduceMul, List.replicate, evK_go, reduceIte, Nat.reduceEqDiff, Nat.reduceLT, List.foldl_cons, List.foldl_nil, Int.cast_ofNat_Int, Int.natCast_add]
        · obtain rfl : k = a := by omega
          simp (implicitDefEqProofs := false) (dsimp := false) only [↓aw_exit, ↓Qseq_x, Bool.true_and, Nat.reduceAdd, Nat.reduceSub, Nat.reduceMul, evK_go, reduceIte, decide_false, Nat.reduceEqDiff, Nat.reduceLT, true_and, Nat.lt_irrefl]
          rw [QX_x]
          refine ⟨(), ?_⟩
          refine Wkn.nest (rw := some ⟨1, vas.map .c⟩ :: ffRows k k (farK k F0 k)) (fx := fxL k vas) 9 0 (vas := vas) (Ds := (List.range k).map fun b => .l (ffRow k (farK k F0 k b))) ?_ (by rfl) (by simp [hva]) (fun b va hb => ?_) ?_ ?_
          · rw [hva]; rfl
          · have hbl : b < vas.length := (List.getElem?_eq_some_iff.1 hb).1
            refine ⟨b + 1, ffRow k (farK k F0 k b), ?_, ?_, ?_⟩
            · rw [ffRow_len]
              have := fxL_mem (n := k) hbl
              rwa [show vas.getD b default = va by rw [List.getD_eq_getElem?_getD, hb]; rfl] at this
            · rw [List.getD_cons_succ]; exact ffRows_get _ (by omega)
            · simp [show b < k by omega]
          · rfl
          · intro q x hq
            have hq : ((List.replicate 157 V.j).set 9 (.d (.l ((List.range k).map fun b => .l (ffRow k (farK k F0 k b))))))[q]? = some x := hq
            rw [List.getElem?_set] at hq
            by_cases e : 9 = q
            · subst e
              rw [if_pos rfl, if_pos (by simp)] at hq
              cases hq
              exact .inr (.inl ⟨rfl, rfl⟩)
            · rw [if_neg e] at hq
              exact .inl (List.eq_of_mem_replicate (List.mem_of_getElem? hq))
      · rintro ⟨⟩ _
        simp (implicitDefEqProofs := false) (dsimp := false) only [slots, ↓aw_seq, ↓aw_ret, ↓aw_reg, ↓Qseq_n, ↓Qseq_x, ↓Qblk_x, ↓Qret_r, ↓ops_nil, ↓ops_cons, ↓eval_tmp, ↓put_some, ↓op_move, ↓op_assign, ↓td_d, ↓ret_1, List.getD_cons_zero, List.getD_cons_succ, List.set_cons_zero, List.set_cons_succ, Nat.reduceAdd, Nat.reduceSub, Nat.reduceMul, List.replicate, evK_go, reduceIte, Nat.reduceEqDiff, Nat.reduceLT, List.foldl_cons, List.foldl_nil]
        skip
theorem rfar_call (n : Nat) (L : List (Int × Int)) (either : Bool) (over : Int) (pure : Bool) (σ : St) (dst : Option Tmp) (K : St → Prop) : CallH Tryd.prog 87 [I .i64 (n : Int), .l (L.map lnD), Bo either, I .i64 over] pure σ dst (.mk : Hid K) = OrH ((n ≤ 40 ∧ L.length < 2 ^ 62) ∧ (pure || D.flat (.l ((List.range n).map fun a => .l (ffRow n (ffR n L either over a))))) = true ∧ evK (σ.put dst (.d (.l ((List.range n).map fun a => .l (ffRow n (ffR n L either over a)))))) (.mk : Hid K)) (.mk : Hid (CallH Tryd.prog 87 [I .i64 (n : Int), .l (L.map lnD), Bo either, I .i64 over] pure σ dst (.mk : Hid K))) := CallH.eq (rfar_spec n L either over) pure σ dst K
end Go.Proofs

namespace Go.Proofs
open Go.Aw
set_option linter.unusedSimpArgs false
set_option maxRecDepth 10000
def comR (n : Nat) (l : List (Int × Int)) (a b : Nat) : Bool := (List.range n).any fun k => decide (((a : Int), (k : Int)) ∈ l) && decide (0 ≤ ffR n l false (-1) k b)
end Go.Proofs

namespace Go.Proofs
open Go.Aw
set_option linter.unusedSimpArgs false
set_option maxRecDepth 10000
/-- The deepest so far of where lines to a point come from. -/
def MostK (d : List Nat) (l : List (Nat × Nat)) (i : Nat) (m : Int) : Prop := (∀ p ∈ l, p.2 = i → (d.getD p.1 default : Int) ≤ m) ∧ (m = -1 ∨ ∃ p ∈ l, p.2 = i ∧ m = (d.getD p.1 default : Nat))
theorem MostK.next {d : List Nat} {l : List (Nat × Nat)} {i : Nat} {m : Int} (h : MostK d l i m) (p : Nat × Nat) : MostK d (l ++ [p]) i (if p.2 = i ∧ m < (d.getD p.1 default : Nat) then ((d.getD p.1 default : Nat) : Int) else m) := by
  obtain ⟨h1, h2⟩ := h
  split
  · rename_i hp
    refine ⟨fun q hq hi => ?_, .inr ⟨p, by simp, hp.1, rfl⟩⟩
    rcases List.mem_append.1 hq with hq | hq
    · have := h1 q hq hi; omega
    · rw [List.mem_singleton.1 hq]; exact Int.le_refl _
  · rename_i hp
    refine ⟨fun q hq hi => ?_, h2.imp id fun ⟨q, hq, h3⟩ => ⟨q, by simp [hq], h3⟩⟩
    rcases List.mem_append.1 hq with hq | hq
    · exact h1 q hq hi
    · rw [List.mem_singleton.1 hq] at hi ⊢
      by_cases hm : m < (d.getD p.1 default : Nat)
      · exact absurd ⟨hi, hm⟩ hp
      · omega
theorem MostK.done {d : List Nat} {l : List (Nat × Nat)} {i : Nat} {m : Int} (h : MostK d l i m) (hd : IsDeep l fun j => d.getD j default) : (d.getD i default : Int) = m + 1 := by
  obtain ⟨h1, h2⟩ := h
  obtain ⟨g1, g2⟩ := hd
  rcases h2 with rfl | ⟨p, hp, rfl, rfl⟩
  · rcases g2 i with h3 | ⟨a, ha, _⟩
    · simp only at h3; omega
    · have := h1 _ ha rfl
      simp only at this; omega
  · have h3 := g1 p.1 p.2 hp
    rcases g2 p.2 with h4 | ⟨a, ha, h5⟩
    · simp only at h3 h4; omega
    · have := h1 _ ha rfl
      simp only at this h3 h5; omega
end Go.Proofs

namespace Go.Proofs
open Go.Aw
set_option linter.unusedSimpArgs false
set_option maxRecDepth 10000
end Go.Proofs

namespace Go.Proofs
open Go.Aw
set_option linter.unusedSimpArgs false
set_option maxRecDepth 10000
theorem ints00_spec  : FnD Tryd.prog 25 [.l [], .l []] (Bo true) := by
  exact ints_spec [] [] (by decide)
theorem ints00_call  (pure : Bool) (σ : St) (dst : Option Tmp) (K : St → Prop) : CallH Tryd.prog 25 [.l [], .l []] pure σ dst (.mk : Hid K) = OrH ((pure || D.flat (Bo true)) = true ∧ evK (σ.put dst (.d (Bo true))) (.mk : Hid K)) (.mk : Hid (CallH Tryd.prog 25 [.l [], .l []] pure σ dst (.mk : Hid K))) := CallH.eq0 (ints00_spec ) pure σ dst K
end Go.Proofs

namespace Go.Proofs
open Go.Aw
set_option linter.unusedSimpArgs false
set_option maxRecDepth 10000
def firstE {α : Type} (f : α → Int) : List α → Int
  | [] => 0
  | x :: l => if f x = 0 then firstE f l else f x
def rowE (n : Nat) (x : List Int) : Int := if x.length ≠ n then 3 else if (x.all fun y => inB y 0 ((n : Int) - 1)) = false then 1 else if x.Nodup then 0 else 6
def stE (L R : List (List Int)) : Int := if 6 < L.length ∨ 6 < R.length then 4 else if L.length ≠ R.length then 3 else if firstE (rowE L.length) L = 0 then firstE (rowE L.length) R else firstE (rowE L.length) L
end Go.Proofs

namespace Go.Proofs
open Go.Aw
set_option linter.unusedSimpArgs false
set_option maxRecDepth 10000
theorem nDI (s : List Nat) : s.map nD = (s.map Int.ofNat).map (I .i64) := by rw [List.map_map]; rfl
def lnR (x : List Nat) : D := .l (x.map nD)
def toN (L : List (List Int)) : List (List Nat) := L.map fun x => x.map Int.toNat
structure StOk (L R : List (List Int)) (n : Nat) (A B : List (List Nat)) : Prop where
  hi : n ≤ 6
  lenL : L.length = n
  lenR : R.length = n
  dL : L.map liD = A.map lnR
  dR : R.map liD = B.map lnR
  pL : Prefs n A
  pR : Prefs n B
theorem place_nat (l : List Nat) (n : Nat) : place (l.map Int.ofNat) (n : Int) = if n ∈ l then ((l.idxOf n : Nat) : Int) else -1 := by
  unfold place
  have hm : ((n : Int) ∈ l.map Int.ofNat) ↔ n ∈ l := by
    rw [List.mem_map]
    exact ⟨fun ⟨x, hx, e⟩ => (Int.ofNat.inj e) ▸ hx, fun h => ⟨n, h, rfl⟩⟩
  by_cases h : n ∈ l
  · rw [if_pos (hm.2 h), if_pos h]
    congr 1
    clear hm h
    induction l with
    | nil => rfl
    | cons x l ih =>
      rw [List.map_cons, List.idxOf_cons, List.idxOf_cons]
      by_cases e : x = n
      · subst e; simp
      · have e2 : ¬ (Int.ofNat x = (n : Int)) := fun h => e (Int.ofNat.inj h)
        have : (x == n) = false := by simpa using e
        have h2 : (Int.ofNat x == (n : Int)) = false := by simpa using e2
        rw [this, h2]
        simp (implicitDefEqProofs := false) (dsimp := false) only [cond_false]
        rw [ih]
  · rw [if_neg (fun h' => h (hm.1 h')), if_neg h]
def isE (L R : List (List Int)) (h : List Int) : Int := if stE L R = 0 then rowE L.length h else stE L R
def stbI (A B : List (List Nat)) (H : List Nat) (i : Nat) : Bool := ((A.getD i default).take ((A.getD i default).idxOf (H.getD i default))).all fun b => !decide ((B.getD b default).idxOf i < (B.getD b default).idxOf (H.idxOf b))
def stbL (A B : List (List Nat)) (H : List Nat) : Bool := (List.range H.length).all (stbI A B H)
def isB (L R : List (List Int)) (h : List Int) : Bool := if isE L R h = 0 then stbL (toN L) (toN R) (h.map Int.toNat) else false
end Go.Proofs

namespace Go.Proofs
open Go.Aw
set_option linter.unusedSimpArgs false
set_option maxRecDepth 10000
def tvA : Nat → V → V
  | 0, _ => .j
  | _, x => x
def tvB : Nat → V → V
  | 0, _ => .j
  | 1, _ => .j
  | _, x => x
def tvC : Nat → V → V
  | 3, x => x
  | _, _ => .j
def rv : Nat → Nat → List D
  | 2, n => List.replicate n (I .i64 0)
  | _, _ => []
def S3 (A B : List (List Nat)) (n c1 c2 c3 t : Nat) : St := { tm := slots 109 [(0, .d (.l (A.map lnR))), (1, .d (.l (B.map lnR))), (7, .d (I .i64 (n : Int))), (8, tvA t (.o 0 0 n)), (9, tvB t (.o 1 0 n)), (10, tvC t (.o 2 0 n)), (26, tvA c1 (.d (I .i64 (n : Int)))), (27, tvB c1 (.o 0 0 n)), (28, tvA c2 (.d (I .i64 (n : Int)))), (29, tvB c2 (.o 1 0 n)), (30, tvA c3 (.d (I .i64 (n : Int)))), (31, tvB c3 (.o 2 0 n))], bx := [], rw := [some ⟨1, rv c1 n⟩, some ⟨1, rv c2 n⟩, some ⟨1, rv c3 n⟩] }
section
variable (p : List Nat) (rw : List (Option Row)) (c o l : Nat)
end
end Go.Proofs

namespace Go.Proofs
open Go.Aw
set_option linter.unusedSimpArgs false
set_option maxRecDepth 10000
def oD (m : Nat) (L : List (Nat × Nat)) (f : Nat) (P : List Nat) : List Nat := (List.range m).map fun i => if i ∈ P then ovS m L f i else 0
def ovP (m : Nat) (L : List (Nat × Nat)) (f c k : Nat) : Nat := addAll 0 ((List.range k).filter (ovC m L f c))
/-- What is wrong with lines and a point. -/
def domE (n : Int) (l : List (Int × Int)) (f : Int) : Int := if chk n l = 0 then (if inB f 0 (n - 1) then 0 else 1) else chk n l
def domOf (n : Int) (l : List (Int × Int)) (f : Int) : List (List Int) := if domE n l f = 0 then (ovL n.toNat (natL l) f.toNat).map ptsI else []
def domLast (n : Int) (l : List (Int × Int)) (f : Int) : List Int := if domE n l f = 0 then lastL n.toNat (ovL n.toNat (natL l) f.toNat) else []
end Go.Proofs

namespace Go.Proofs
open Go.Aw
set_option linter.unusedSimpArgs false
set_option maxRecDepth 10000
def lastB (m : Nat) (W : List Nat) (k : Nat) : List Int := (List.range m).map fun i => if i < k then lastI W i else 0
end Go.Proofs

namespace Go.Proofs
open Go.Aw
set_option linter.unusedSimpArgs false
set_option maxRecDepth 10000
end Go.Proofs

namespace Go.Proofs
open Go.Aw
set_option linter.unusedSimpArgs false
set_option maxRecDepth 10000
def rootR (n : Int) (l : List (Int × Int)) : List Nat := if chk n l = 0 then (List.range n.toNat).map (rootP n.toNat (natL l)) else []
def farR (n : Int) (l : List (Int × Int)) (f : Int) : List Int := if chk n l = 0 then (if inB f 0 (n - 1) = true then farL n.toNat (natL l) f.toNat else []) else []
def farE (n : Int) (l : List (Int × Int)) (f : Int) : Int := if chk n l = 0 then (if inB f 0 (n - 1) = true then 0 else 1) else chk n l
def negK (n k : Nat) : List Int := List.replicate k (-1) ++ List.replicate (n - k) 0
structure FI where
  q : Nat
  pre : List Nat
  st : BS
end Go.Proofs

namespace Go.Proofs
open Go.Aw
set_option linter.unusedSimpArgs false
set_option maxRecDepth 10000
set_option maxHeartbeats 2000000
structure PI where
  m : Nat
  pre : List Nat
  g : GS
def outK (has : List Int) (n k : Nat) : List Nat := (List.range k).foldl (fun o j => o.set (has.getD j default).toNat j) (List.replicate n 0)
def pairsR (L R : List (List Int)) : List Nat := if stE L R = 0 then gale L.length (toN L) (toN R) else []
end Go.Proofs

namespace Go.Proofs
open Go.Aw Go.ChangeShapes Go.WideShapes Go.ChangeAt Go.RowKit Go.Deep
set_option linter.unusedVariables false
set_option maxRecDepth 100000
section
variable {H : Type} {enc : TypeId × Value → H} {W : World} {held : Bool}
end
end Go.Proofs

namespace Go.Proofs
open Go.Aw
set_option linter.unusedSimpArgs false
set_option maxRecDepth 10000
def sgL : List (List Int) := [[0, 1], [0, 1]]
def sgR : List (List Int) := [[1, 0], [0, 1]]
end Go.Proofs

namespace Go.Proofs
open Go.Aw
set_option linter.unusedSimpArgs false
set_option maxRecDepth 10000
end Go.Proofs

namespace Go.Proofs
open Go.Aw
set_option linter.unusedSimpArgs false
set_option maxRecDepth 10000
theorem rplace_spec (l : List Int) (n : Int) (hpre : l.length < 2 ^ 62) : FnD Tryd.prog 31 [.l (l.map (I .i64)), I .i64 n] (I .i64 (place l n)) := by
  refine FnD.go Tryd.func31 rfl rfl Tryd.results31 Tryd.ntmps31 ?_
  simp (implicitDefEqProofs := false) (dsimp := false) only [↓aw_seq, ↓aw_block, ↓aw_loop, ↓aw_reg, ↓Qseq_n, ↓ops_nil, ↓ops_cons, ↓eval_int, ↓put_some, ↓op_assign, List.set_cons_zero, List.set_cons_succ, List.cons_append, List.nil_append, List.map_cons, List.map_nil, List.length_cons, List.length_nil, Nat.reduceAdd, Nat.reduceSub, Nat.reduceMul, Nat.zero_add, List.replicate, evK_go, reduceIte, Nat.reduceEqDiff, Nat.reduceLT, Int.zero_add]
  refine loopW (fun k : Nat => { tm := slots 19 [(0, .d (.l (l.map (I .i64)))), (1, .d (I .i64 n)), (5, .d (I .i64 k))], bx := [], rw := [] })
    (fun k => k ≤ l.length ∧ n ∉ l.take k) (fun k => l.length - k) 0 ⟨by simp, by simp⟩ ?_ ?_
  · refine Wkn.of [] [] ?_
    simp (implicitDefEqProofs := false) (dsimp := false) only [List.set_cons_zero, List.set_cons_succ, Bool.and_self, Nat.reduceAdd, Nat.reduceSub, Nat.reduceMul, List.replicate, evK_go, reduceIte, Nat.reduceEqDiff, Nat.reduceLT, and_self, List.foldl_cons, List.foldl_nil, Int.cast_ofNat_Int, slots, wkL_nil, wkL_cons, wkB_nil, wkR_nil, wkV_j, wkV_d, frz_d, reduceCtorEq]
  · rintro k ⟨h1, h2⟩
    simp (implicitDefEqProofs := false) (dsimp := false) only [slots, ↓aw_cond, ↓aw_seq, ↓aw_reg, ↓Qseq_n, ↓ops_nil, ↓ops_cons, ↓eval_tmp, ↓put_some, ↓bK_b, ↓lenK_l, ↓binE_i, ↓bi_lss, ↓op_move, ↓op_bin, ↓op_len, ↓sl24, List.getD_cons_zero, List.getD_cons_succ, List.set_cons_zero, List.set_cons_succ, List.length_map, Nat.reduceAdd, Nat.reduceSub, Nat.reduceMul, List.replicate, evK_go, reduceIte, Nat.reduceEqDiff, Nat.reduceLT, List.foldl_cons, List.foldl_nil, Int.ofNat_lt]
    refine cdK_dec (fun h => ?_) (fun h => ?_)
    · have hk : k < l.length := by omega
      simp (implicitDefEqProofs := false) (dsimp := false) only [hk, ↓atK_H, ↓atH_map, ↓aw_cond, ↓aw_seq, ↓aw_block, ↓aw_skip, ↓aw_reg, ↓Qseq_n, ↓ops_nil, ↓ops_cons, ↓eval_tmp, ↓put_some, ↓bK_b, ↓iK_i, ↓binE_i, ↓bi_eql, ↓ldK_q, ↓iaK_l, ↓op_move, ↓op_load, ↓op_bin, ↓op_ia, ↓cells_c, ↓hd_cons, ↓ty3, ↓sl24, List.getD_cons_zero, List.getD_cons_succ, List.set_cons_zero, List.set_cons_succ, List.length_cons, List.length_nil, Bool.true_and, Nat.reduceAdd, Nat.reduceSub, Nat.reduceMul, Nat.zero_add, Int.toNat_natCast, evK_go, reduceIte, decide_true, Nat.reduceEqDiff, Nat.reduceLT, true_and, Int.zero_add, Int.natCast_nonneg]
      refine cdK_dec (fun hb => ?_) (fun hb => ?_)
      · have := place_at hk h2 hb
        simp (implicitDefEqProofs := false) (dsimp := false) only [this, ↓aw_seq, ↓aw_ret, ↓aw_reg, ↓Qseq_n, ↓Qseq_r, ↓Qblk_r, ↓Qret_r, ↓ops_nil, ↓ops_cons, ↓eval_tmp, ↓put_some, ↓op_move, ↓op_assign, ↓td_d, ↓ret_1, List.getD_cons_zero, List.getD_cons_succ, List.set_cons_zero, List.set_cons_succ, Nat.reduceAdd, Nat.reduceSub, Nat.reduceMul, evK_go, reduceIte, Nat.reduceEqDiff, Nat.reduceLT]
      · simp (implicitDefEqProofs := false) (dsimp := false) only [↓aw_skip, ↓aw_reg, ↓Qseq_n, ↓Qblk_n, ↓ops_nil, ↓ops_cons, ↓eval_tmp, ↓eval_int, ↓put_some, ↓binE_i, ↓bi_add, ↓in_i64, ↓op_move, ↓op_assign, ↓op_bin, List.getD_cons_zero, List.getD_cons_succ, List.set_cons_zero, List.set_cons_succ, Nat.reduceAdd, Nat.reduceSub, Nat.reduceMul, evK_go, reduceIte, Nat.reduceEqDiff, Nat.reduceLT]
        refine ⟨by omega, k + 1, ⟨by omega, ?_⟩, by omega, ?_⟩
        · rw [take_succ_getD hk, List.mem_append, List.mem_singleton]
          exact fun h' => h'.elim h2 (fun e => hb e.symm)
        · refine Wkn.of [] [] ?_
          simp (implicitDefEqProofs := false) (dsimp := false) only [List.set_cons_zero, List.set_cons_succ, Bool.and_self, Nat.reduceAdd, Nat.reduceSub, Nat.reduceMul, List.replicate, evK_go, reduceIte, Nat.reduceEqDiff, Nat.reduceLT, and_self, List.foldl_cons, List.foldl_nil, Int.cast_ofNat_Int, Int.natCast_add, slots, wkL_nil, wkL_cons, wkB_nil, wkR_nil, wkV_j, wkV_d, frz_d, reduceCtorEq]
    · obtain rfl : k = l.length := by omega
      rw [List.take_length] at h2
      have : place l n = -1 := if_neg h2
      simp (implicitDefEqProofs := false) (dsimp := false) only [this, ↓aw_seq, ↓aw_exit, ↓aw_ret, ↓aw_reg, ↓Qseq_n, ↓Qseq_x, ↓Qblk_x, ↓Qret_r, ↓ops_nil, ↓ops_cons, ↓eval_tmp, ↓eval_int, ↓put_some, ↓op_assign, ↓td_d, ↓ret_1, List.getD_cons_zero, List.getD_cons_succ, List.set_cons_zero, List.set_cons_succ, Nat.reduceAdd, Nat.reduceSub, Nat.reduceMul, evK_go, reduceIte, decide_false, Nat.reduceEqDiff, Nat.reduceLT, Nat.lt_irrefl]
theorem rplaceN_spec (l : List Nat) (n : Nat) (hpre : l.length < 2 ^ 62 ∧ n ∈ l) : FnD Tryd.prog 31 [.l (l.map nD), I .i64 (n : Int)] (I .i64 (l.idxOf n : Nat)) := by
  have h := rplace_spec (l.map Int.ofNat) n (by simpa using hpre.1)
  rw [place_nat, if_pos hpre.2, ← nDI] at h
  exact h
theorem rplaceN_call (l : List Nat) (n : Nat) (pure : Bool) (σ : St) (dst : Option Tmp) (K : St → Prop) : CallH Tryd.prog 31 [.l (l.map nD), I .i64 (n : Int)] pure σ dst (.mk : Hid K) = OrH ((l.length < 2 ^ 62 ∧ n ∈ l) ∧ (pure || D.flat (I .i64 (l.idxOf n : Nat))) = true ∧ evK (σ.put dst (.d (I .i64 (l.idxOf n : Nat)))) (.mk : Hid K)) (.mk : Hid (CallH Tryd.prog 31 [.l (l.map nD), I .i64 (n : Int)] pure σ dst (.mk : Hid K))) := CallH.eq (rplaceN_spec l n) pure σ dst K
end Go.Proofs

namespace Go.Proofs
open Go.Aw
set_option linter.unusedSimpArgs false
set_option maxRecDepth 10000
set_option maxHeartbeats 1000000
end Go.Proofs

namespace Go.Proofs
open Go.Aw
set_option linter.unusedSimpArgs false
set_option maxRecDepth 10000
set_option maxHeartbeats 2000000
theorem goes_nat {n : Int} {l : List (Int × Int)} (ok : Ok n l) (i j : Nat) : (((i : Int), (j : Int)) ∈ l ↔ (i, j) ∈ natL l) := by
  unfold natL
  rw [List.mem_map]
  constructor
  · intro h; exact ⟨_, h, rfl⟩
  · rintro ⟨⟨a, b⟩, h1, h2⟩
    have := ok.rng _ h1
    simp (implicitDefEqProofs := false) (dsimp := false) only [natP, Prod.mk.injEq] at h2 this
    have e1 : a = (i : Int) := by omega
    have e2 : b = (j : Int) := by omega
    rw [← e1, ← e2]; exact h1
end Go.Proofs

namespace Go.Proofs
open Go.Aw
set_option linter.unusedSimpArgs false
set_option maxRecDepth 10000
set_option maxHeartbeats 2000000
end Go.Proofs

namespace Go.Proofs
open Go.Aw
set_option linter.unusedSimpArgs false
set_option maxRecDepth 10000
set_option maxHeartbeats 2000000
theorem rparts_spec (n : Nat) (l : List (Int × Int)) (L : List (Nat × Nat)) (hpre : (n ≤ 40 ∧ l.length < 2 ^ 62) ∧ Good n L ∧ ∀ a b : Nat, (((a : Int), (b : Int)) ∈ l ↔ (a, b) ∈ L)) : FnD Tryd.prog 57 [I .i64 (n : Int), .l (l.map lnD)] (.l ((strongP n L).map nD)) := by
  obtain ⟨hfp, hg, hl⟩ := hpre
  have hn := hfp.1
  have hlr : (List.range n).length = n := List.length_range
  have hF : ∀ i j, i < n → j < n → (0 ≤ ffR n l false (-1) i j ↔ Path L i j) := fun i j hi hj => far_path hl hg hi hj
  refine FnD.go Tryd.func57 rfl rfl Tryd.results57 Tryd.ntmps57 ?_
  simp (implicitDefEqProofs := false) (dsimp := false) only [↓aw_seq, ↓aw_reg, ↓Qseq_n, ↓ops_nil, ↓ops_cons, ↓eval_tmp, ↓eval_int, ↓eval_bool, ↓eval_nil, ↓eval_func, ↓put_some, ↓op_move, ↓op_assign, ↓op_call, isD_d, ↓fnK_f, ↓call_H, ↓callK_H, ↓allT_nil, ↓allT_cons, ↓td_d, List.getD_cons_zero, List.getD_cons_succ, List.set_cons_zero, List.set_cons_succ, List.cons_append, List.nil_append, List.append_nil, List.map_cons, List.map_nil, List.length_cons, List.length_nil, List.all_cons, List.all_nil, Bool.and_self, Nat.reduceAdd, Nat.reduceSub, Nat.reduceMul, Nat.zero_add, List.replicate, evK_go, reduceIte, Nat.reduceEqDiff, Nat.reduceLT, and_self, Int.zero_add]
  simp (implicitDefEqProofs := false) (dsimp := false) only [rfar_call, hfp, ↓aw_seq, ↓aw_block, ↓aw_loop, ↓aw_reg, ↓Qseq_n, ↓ops_nil, ↓ops_cons, ↓eval_tmp, ↓eval_int, ↓eval_nil, ↓put_some, ↓op_assign, List.getD_cons_zero, List.getD_cons_succ, List.set_cons_zero, List.set_cons_succ, Bool.true_and, Bool.and_self, Bool.true_or, Nat.reduceAdd, Nat.reduceSub, Nat.reduceMul, evK_go, reduceIte, Nat.reduceEqDiff, Nat.reduceLT, and_self, true_and]
  (repeat refine OrH.l ?_)
  generalize ffR n l false (-1) = F at *
  refine loopW (fun i : Nat => { tm := slots 42 [(0, .d (I .i64 (n : Int))), (5, .d (.l ((List.range n).map fun a => .l (ffRow n (F a))))), (6, .o 0 0 i), (7, .d (I .i64 i))], bx := [], rw := [some ⟨1, ((strongP n L).take i).map nD⟩] })
    (fun i => i ≤ n) (fun i => n - i) 0 (by simp) ?_ ?_
  · refine Wkn.of [] [none] ?_
    simp (implicitDefEqProofs := false) (dsimp := false) only [List.take_zero, List.map_nil, ffRow, ↓row_xs, List.set_cons_zero, List.set_cons_succ, List.map_nil, Bool.and_self, Nat.reduceAdd, Nat.reduceSub, Nat.reduceMul, List.replicate, evK_go, reduceIte, Nat.reduceEqDiff, Nat.reduceLT, and_self, List.take_zero, List.foldl_cons, List.foldl_nil, Int.cast_ofNat_Int, slots, wkL_nil, wkL_cons, wkB_nil, wkR_nil, wkR_new, wkV_j, wkV_d, nlK_nl, wkV_o, frz_d, oK_zn, reduceCtorEq]
  · intro i hi
    have hpl : (strongP n L).length = n := by simp [strongP]
    have htl : ((strongP n L).take i).length = i := by rw [List.length_take]; omega
    simp (implicitDefEqProofs := false) (dsimp := false) only [slots, ↓aw_cond, ↓aw_seq, ↓aw_reg, ↓Qseq_n, ↓ops_nil, ↓ops_cons, ↓eval_tmp, ↓put_some, ↓bK_b, ↓binE_i, ↓bi_lss, ↓op_move, ↓op_bin, List.getD_cons_zero, List.getD_cons_succ, List.set_cons_zero, List.set_cons_succ, Nat.reduceAdd, Nat.reduceSub, Nat.reduceMul, List.replicate, evK_go, reduceIte, Nat.reduceEqDiff, Nat.reduceLT, List.foldl_cons, List.foldl_nil, Int.ofNat_lt]
    refine cdK_dec (fun h => ?_) (fun h => ?_)
    rotate_left
    · obtain rfl : i = n := by omega
      have e1 : (strongP i L).take i = strongP i L := List.take_of_length_le (by omega)
      have e2 : List.take i ((strongP i L).map nD) = (strongP i L).map nD := List.take_of_length_le (by simp [hpl])
      simp (implicitDefEqProofs := false) (dsimp := false) only [e1, e2, ↓optK_some, ↓rwK_H, ↓aw_seq, ↓aw_exit, ↓aw_ret, ↓aw_reg, ↓Qseq_n, ↓Qseq_x, ↓Qblk_x, ↓Qret_r, ↓ops_nil, ↓ops_cons, ↓eval_tmp, ↓put_some, ↓op_move, ↓op_assign, ↓td_o, ↓ret_1, ↓row_xs, List.getD_cons_zero, List.getD_cons_succ, List.set_cons_zero, List.set_cons_succ, Nat.reduceAdd, Nat.reduceSub, Nat.reduceMul, evK_go, reduceIte, decide_false, Nat.reduceEqDiff, Nat.reduceLT, Nat.lt_irrefl, List.drop_zero]
    have hin : i < n := by omega
    have hri := rng_getD hin
    obtain ⟨hpm, hpi⟩ := part_mut (n := n) (by omega) hg hin
    have hpt := P_get (l := L) hin
    have hsnoc := take_succ_getD (l := strongP n L) (k := i) (by omega)
    rw [hpt] at hsnoc
    simp (implicitDefEqProofs := false) (dsimp := false) only [↓aw_seq, ↓aw_block, ↓aw_skip, ↓aw_loop, ↓aw_reg, ↓Qseq_n, ↓ops_nil, ↓ops_cons, ↓eval_int, ↓put_some, ↓op_assign, List.set_cons_zero, List.set_cons_succ, Nat.reduceAdd, Nat.reduceSub, Nat.reduceMul, evK_go, reduceIte, Nat.reduceEqDiff, Nat.reduceLT]
    refine loopX (fun k : Nat => { tm := slots 42 [(0, .d (I .i64 (n : Int))), (5, .d (.l ((List.range n).map fun a => .l (ffRow n (F a))))), (6, .o 0 0 i), (7, .d (I .i64 i)), (8, .d (I .i64 k))], bx := [], rw := [some ⟨1, ((strongP n L).take i).map nD⟩] })
      (fun k => k ≤ part n L i) (fun k => part n L i - k) 2 (fun _ : Unit => { tm := slots 42 [(0, .d (I .i64 (n : Int))), (5, .d (.l ((List.range n).map fun a => .l (ffRow n (F a))))), (6, .o 0 0 i), (7, .d (I .i64 i)), (8, .d (I .i64 (part n L i : Nat)))], bx := [], rw := [some ⟨1, ((strongP n L).take i).map nD⟩] }) (fun _ => True) 0 (by simp) ?_ ?_ ?_
    · refine Wkn.of [] [some 0] ?_
      simp (implicitDefEqProofs := false) (dsimp := false) only [ffRow, List.getD_cons_zero, List.set_cons_zero, List.set_cons_succ, Bool.and_self, Nat.reduceAdd, Nat.reduceSub, Nat.reduceMul, List.replicate, evK_go, reduceIte, Nat.reduceEqDiff, Nat.reduceLT, and_self, List.foldl_cons, List.foldl_nil, Int.cast_ofNat_Int, slots, wkL_nil, wkL_cons, wkB_nil, wkR_nil, wkR_some, wkV_j, wkV_d, wkV_o, frz_d, oK_zs, reduceCtorEq]
    · intro k hk
      have hkn : k < n := by omega
      have hrk := rng_getD hkn
      have f1 := hF i k hin hkn
      have f2 := hF k i hkn hin
      have hlow : 0 ≤ F i k → 0 ≤ F k i → k = part n L i := fun a b => by
        have := (part_spec (n := n) (by omega) hg hin ⟨f1.1 a, f2.1 b⟩).2
        omega
      have hup : k = part n L i → 0 ≤ F i k ∧ 0 ≤ F k i := fun e => by
        rw [f1, f2, e]; exact hpm
      by_cases h1 : F i k < 0
      · have hne : k ≠ part n L i := fun e => by have := (hup e).1; omega
        have d1 : decide (F i k < 0) = true := decide_eq_true h1
        simp (implicitDefEqProofs := false) (dsimp := false) only [slots, hin, hkn, hlr, hri, hrk, ffRow, d1, ↓cdK_true, ↓gdK_f, ↓gval_mk, ↓gvL_zero, ↓gvL_succ, ↓atK_H, ↓atH_map, ↓aw_cond, ↓aw_seq, ↓aw_block, ↓aw_skip, ↓aw_reg, ↓Qseq_n, ↓Qblk_n, ↓ops_nil, ↓ops_cons, ↓ops_guard, ↓eval_tmp, ↓eval_int, ↓eval_bool, ↓put_some, ↓bK_b, ↓iK_i, ↓binE_i, ↓bi_add, ↓bi_lss, ↓in_i64, ↓ldK_q, ↓iaK_l, ↓op_move, ↓op_assign, ↓op_pick, ↓op_load, ↓op_bin, ↓op_ia, ↓st_tm, ↓cells_c, ↓cells_l, ↓hd_cons, ↓ty3, ↓ty24, ↓sl24, ↓sl69, List.getD_cons_zero, List.getD_cons_succ, List.set_cons_zero, List.set_cons_succ, List.length_cons, List.length_nil, Bool.true_and, Nat.reduceAdd, Nat.reduceSub, Nat.reduceMul, Nat.zero_add, Int.toNat_natCast, List.replicate, evK_go, reduceIte, Nat.reduceEqDiff, Nat.reduceLT, true_and, Int.zero_add, List.foldl_cons, List.foldl_nil, Int.natCast_nonneg]
        refine ⟨by omega, k + 1, by omega, by omega, ?_⟩
        refine Wkn.of [] [some 0] ?_
        simp (implicitDefEqProofs := false) (dsimp := false) only [List.getD_cons_zero, Bool.and_self, Nat.reduceAdd, Nat.reduceSub, Nat.reduceMul, evK_go, reduceIte, Nat.reduceEqDiff, Nat.reduceLT, and_self, Int.cast_ofNat_Int, Int.natCast_add, slots, wkL_nil, wkL_cons, wkB_nil, wkR_nil, wkR_some, wkV_j, wkV_d, wkV_o, frz_d, oK_zs, reduceCtorEq]
      · have d1 : decide (F i k < 0) = false := decide_eq_false h1
        by_cases h2 : F k i < 0
        · have hne : k ≠ part n L i := fun e => by have := (hup e).2; omega
          have d2 : decide (F k i < 0) = true := decide_eq_true h2
          simp (implicitDefEqProofs := false) (dsimp := false) only [slots, hin, hkn, hlr, hri, hrk, ffRow, d1, d2, ↓cdK_true, ↓cdK_false, ↓gdK_f, ↓gval_mk, ↓gvL_zero, ↓gvL_succ, ↓atK_H, ↓atH_map, ↓aw_cond, ↓aw_seq, ↓aw_block, ↓aw_skip, ↓aw_reg, ↓Qseq_n, ↓Qblk_n, ↓ops_nil, ↓ops_cons, ↓ops_guard, ↓eval_tmp, ↓eval_int, ↓put_some, ↓bK_b, ↓iK_i, ↓binE_i, ↓bi_add, ↓bi_lss, ↓in_i64, ↓ldK_q, ↓iaK_l, ↓op_move, ↓op_assign, ↓op_pick, ↓op_load, ↓op_bin, ↓op_ia, ↓st_tm, ↓cells_c, ↓cells_l, ↓hd_cons, ↓ty3, ↓ty24, ↓sl24, ↓sl69, List.getD_cons_zero, List.getD_cons_succ, List.set_cons_zero, List.set_cons_succ, List.length_cons, List.length_nil, Bool.true_and, Nat.reduceAdd, Nat.reduceSub, Nat.reduceMul, Nat.zero_add, Int.toNat_natCast, List.replicate, evK_go, reduceIte, Nat.reduceEqDiff, Nat.reduceLT, true_and, Int.zero_add, List.foldl_cons, List.foldl_nil, Int.natCast_nonneg]
          refine ⟨by omega, k + 1, by omega, by omega, ?_⟩
          refine Wkn.of [] [some 0] ?_
          simp (implicitDefEqProofs := false) (dsimp := false) only [List.getD_cons_zero, Bool.and_self, Nat.reduceAdd, Nat.reduceSub, Nat.reduceMul, evK_go, reduceIte, Nat.reduceEqDiff, Nat.reduceLT, and_self, Int.cast_ofNat_Int, Int.natCast_add, slots, wkL_nil, wkL_cons, wkB_nil, wkR_nil, wkR_some, wkV_j, wkV_d, wkV_o, frz_d, oK_zs, reduceCtorEq]
        · have d2 : decide (F k i < 0) = false := decide_eq_false h2
          obtain rfl := hlow (by omega) (by omega)
          simp (implicitDefEqProofs := false) (dsimp := false) only [slots, hin, hkn, hlr, hri, hrk, ffRow, d1, d2, QX, ↓cdK_false, ↓gdK_f, ↓gval_mk, ↓gvL_zero, ↓gvL_succ, ↓optK_some, ↓rwK_H, ↓atK_H, ↓atH_map, ↓aw_cond, ↓aw_seq, ↓aw_exit, ↓aw_ret, ↓aw_reg, ↓Qseq_n, ↓Qseq_x, ↓Qblk_n, ↓Qblk_x, ↓Qret_r, ↓ops_nil, ↓ops_cons, ↓ops_guard, ↓eval_tmp, ↓eval_int, ↓put_some, ↓bK_b, ↓iK_i, ↓dK_d, ↓binE_i, ↓bi_add, ↓bi_lss, ↓in_i64, ↓ldK_q, ↓iaK_l, ↓op_move, ↓op_assign, ↓op_pick, ↓op_load, ↓op_bin, ↓op_ia, ↓op_append, ↓allD_nil, ↓allD_cons, ↓td_o, ↓ret_1, ↓app_mk, ↓st_tm, ↓row_sz, ↓row_xs, kill_d, kill_j, kill_o, ↓cells_c, ↓cells_l, ↓one_i, ↓ap_, ↓ap_o, ↓src_l, ↓bs_, ↓op_bs, ↓bsL_f, ↓stored_mk, ↓sl_nil, ↓sl_cons, ↓sT_move, ↓sT_assign, ↓sT_bs, ↓sT_call, ↓vsz_int, ↓inO_1, ↓fm_nil, ↓fm_cons, ↓hd_cons, ↓ty3, ↓zb3, ↓ty24, ↓sl24, ↓sl69, List.getD_cons_zero, List.getD_cons_succ, List.set_cons_zero, List.set_cons_succ, List.map_cons, List.map_nil, List.length_cons, List.length_nil, List.length_map, List.all_cons, List.all_nil, Bool.true_and, Bool.and_self, Bool.or_false, Nat.reduceAdd, Nat.reduceSub, Nat.reduceMul, Nat.zero_add, Int.toNat_natCast, List.replicate, evK_go, reduceIte, Nat.reduceEqDiff, Nat.reduceLT, and_self, true_and, Int.zero_add, List.drop_zero, List.foldl_cons, List.foldl_nil, Int.natCast_nonneg]
          refine ⟨(), ?_⟩
          refine Wkn.of [] [some 0] ?_
          simp (implicitDefEqProofs := false) (dsimp := false) only [List.getD_cons_zero, Bool.and_self, Nat.reduceAdd, Nat.reduceSub, Nat.reduceMul, evK_go, reduceIte, Nat.reduceEqDiff, Nat.reduceLT, and_self, slots, wkL_nil, wkL_cons, wkB_nil, wkR_nil, wkR_some, wkV_j, wkV_d, wkV_o, frz_d, oK_zs, reduceCtorEq]
    · intro _ _
      simp (implicitDefEqProofs := false) (dsimp := false) only [slots, htl, ↓optK_some, ↓rwK_H, ↓aw_seq, ↓aw_ret, ↓aw_reg, ↓Qseq_n, ↓Qseq_x, ↓Qblk_n, ↓Qblk_x, ↓Qret_r, ↓ops_nil, ↓ops_cons, ↓eval_tmp, ↓eval_int, ↓put_some, ↓dK_d, ↓binE_i, ↓bi_add, ↓in_i64, ↓op_move, ↓op_assign, ↓op_bin, ↓op_append, ↓allD_nil, ↓allD_cons, ↓td_o, ↓ret_1, ↓app_mk, ↓row_sz, ↓row_xs, kill_d, kill_j, kill_o, ↓cells_c, ↓one_i, ↓ap_, ↓ap_o, ↓src_l, ↓bs_, ↓op_bs, ↓bsL_f, ↓stored_mk, ↓sl_nil, ↓sl_cons, ↓sT_move, ↓sT_assign, ↓sT_bs, ↓sT_call, ↓vsz_int, ↓inO_1, ↓fm_nil, ↓fm_cons, ↓ty3, ↓zb3, ↓sl24, List.getD_cons_zero, List.getD_cons_succ, List.set_cons_zero, List.set_cons_succ, List.map_cons, List.map_nil, List.length_cons, List.length_nil, List.length_map, List.all_cons, List.all_nil, Bool.true_and, Bool.and_self, Bool.or_false, Nat.reduceAdd, Nat.reduceSub, Nat.reduceMul, Nat.zero_add, List.replicate, evK_go, reduceIte, Nat.reduceEqDiff, Nat.reduceLT, and_self, true_and, Int.zero_add, List.drop_zero, List.foldl_cons, List.foldl_nil]
      refine ⟨by decide, ⟨fun _ => trivial, by omega, by omega⟩, by omega, i + 1, by omega, by omega, ?_⟩
      refine Wkn.of [] [some 0] ?_
      simp (implicitDefEqProofs := false) (dsimp := false) only [hsnoc, List.map_append, nD, ffRow, List.getD_cons_zero, List.map_cons, List.map_nil, Bool.and_self, Nat.reduceAdd, Nat.reduceSub, Nat.reduceMul, evK_go, reduceIte, Nat.reduceEqDiff, Nat.reduceLT, and_self, Int.cast_ofNat_Int, Int.natCast_add, slots, wkL_nil, wkL_cons, wkB_nil, wkR_nil, wkR_some, wkV_j, wkV_d, wkV_o, frz_d, oK_zs, reduceCtorEq]
theorem rparts_call (n : Nat) (l : List (Int × Int)) (L : List (Nat × Nat)) (pure : Bool) (σ : St) (dst : Option Tmp) (K : St → Prop) : CallH Tryd.prog 57 [I .i64 (n : Int), .l (l.map lnD)] pure σ dst (.mk : Hid K) = OrH (((n ≤ 40 ∧ l.length < 2 ^ 62) ∧ Good n L ∧ ∀ a b : Nat, (((a : Int), (b : Int)) ∈ l ↔ (a, b) ∈ L)) ∧ (pure || D.flat (.l ((strongP n L).map nD))) = true ∧ evK (σ.put dst (.d (.l ((strongP n L).map nD)))) (.mk : Hid K)) (.mk : Hid (CallH Tryd.prog 57 [I .i64 (n : Int), .l (l.map lnD)] pure σ dst (.mk : Hid K))) := CallH.eq (rparts_spec n l L) pure σ dst K
end Go.Proofs

namespace Go.Proofs
open Go.Aw
set_option linter.unusedSimpArgs false
set_option maxRecDepth 10000
set_option maxHeartbeats 2000000
end Go.Proofs

namespace Go.Proofs
open Go.Aw
set_option linter.unusedSimpArgs false
set_option maxRecDepth 10000
set_option maxHeartbeats 2000000
theorem cast_lines : ∀ {a b : List (Nat × Nat)}, (a.map fun p => ((p.1 : Int), (p.2 : Int))) = (b.map fun p => ((p.1 : Int), (p.2 : Int))) → a = b := by
  intro a
  induction a with
  | nil => intro b h; cases b with
    | nil => rfl
    | cons _ _ => cases h
  | cons x a ih => intro b h; cases b with
    | nil => cases h
    | cons y b =>
      rw [List.map_cons, List.map_cons, List.cons.injEq, Prod.mk.injEq] at h
      have e : x = y := Prod.ext (by omega) (by omega)
      rw [e, ih h.2]
theorem elinesN_spec (a b : List (Nat × Nat)) (hpre : a.length < 2 ^ 62) : FnD Tryd.prog 55 [.l (a.map lnN), .l (b.map lnN)] (Bo (decide (a = b))) := by
  have h := elines_spec (a.map fun p => ((p.1 : Int), (p.2 : Int))) (b.map fun p => ((p.1 : Int), (p.2 : Int))) (by simpa using hpre)
  have e1 : ∀ L : List (Nat × Nat), (L.map fun p => ((p.1 : Int), (p.2 : Int))).map lnD = L.map lnN := fun L => by rw [List.map_map]; rfl
  have e2 : decide ((a.map fun p => ((p.1 : Int), (p.2 : Int))) = (b.map fun p => ((p.1 : Int), (p.2 : Int)))) = decide (a = b) := by
    rw [Bool.eq_iff_iff, decide_eq_true_eq, decide_eq_true_eq]
    exact ⟨cast_lines, fun h => by rw [h]⟩
  rw [e1, e1, e2] at h
  exact h
theorem elinesN_call (a b : List (Nat × Nat)) (pure : Bool) (σ : St) (dst : Option Tmp) (K : St → Prop) : CallH Tryd.prog 55 [.l (a.map lnN), .l (b.map lnN)] pure σ dst (.mk : Hid K) = OrH ((a.length < 2 ^ 62) ∧ (pure || D.flat (Bo (decide (a = b)))) = true ∧ evK (σ.put dst (.d (Bo (decide (a = b))))) (.mk : Hid K)) (.mk : Hid (CallH Tryd.prog 55 [.l (a.map lnN), .l (b.map lnN)] pure σ dst (.mk : Hid K))) := CallH.eq (elinesN_spec a b) pure σ dst K
theorem elines00_spec  : FnD Tryd.prog 55 [.l [], .l []] (Bo true) := by
  exact elines_spec [] [] (by decide)
theorem elines00_call  (pure : Bool) (σ : St) (dst : Option Tmp) (K : St → Prop) : CallH Tryd.prog 55 [.l [], .l []] pure σ dst (.mk : Hid K) = OrH ((pure || D.flat (Bo true)) = true ∧ evK (σ.put dst (.d (Bo true))) (.mk : Hid K)) (.mk : Hid (CallH Tryd.prog 55 [.l [], .l []] pure σ dst (.mk : Hid K))) := CallH.eq0 (elines00_spec ) pure σ dst K
def rowC (C : Nat → Nat → Bool) (a b : Nat) : List Nat := (List.range b).filter (C a)
def allC (C : Nat → Nat → Bool) (n a : Nat) : List (List Int) := (List.range a).map fun x => (rowC C x n).map Int.ofNat
end Go.Proofs

namespace Go.Proofs
open Go.Aw
set_option linter.unusedSimpArgs false
set_option maxRecDepth 10000
set_option maxHeartbeats 4000000
theorem natL_get {n : Int} {l : List (Int × Int)} (ok : Ok n l) {k : Nat} (hk : k < l.length) : l.getD k default = ((((natL l).getD k default).1 : Int), (((natL l).getD k default).2 : Int)) := by
  have hm := ok.rng _ (getD_mem hk)
  have e : (natL l).getD k default = natP (l.getD k default) := by
    unfold natL
    rw [List.getD_eq_getElem?_getD, List.getD_eq_getElem?_getD, List.getElem?_map, List.getElem?_eq_getElem hk]; rfl
  rw [e]
  unfold natP
  exact Prod.ext (by simp only; omega) (by simp only; omega)
theorem lStrongSays_spec (n : Int) (l : List (Int × Int)) (hn : -9223372036854775808 ≤ n ∧ n ≤ 9223372036854775807) (hl : l.length < 2 ^ 43) : FnD Tryd.prog 13 [I .i64 n, .l (l.map lnD)] (Bo true) := by
  have hl62 : l.length < 2 ^ 62 := by omega
  refine FnD.go Tryd.func13 rfl rfl Tryd.results13 Tryd.ntmps13 ?_
  simp (implicitDefEqProofs := false) (dsimp := false) only [↓aw_seq, ↓aw_reg, ↓Qseq_n, ↓ops_nil, ↓ops_cons, ↓eval_tmp, ↓eval_bool, ↓eval_func, ↓put_some, ↓op_move, ↓op_assign, ↓op_call, isD_d, ↓fnK_f, ↓call_H, ↓callK_H, ↓allT_nil, ↓allT_cons, ↓td_d, List.getD_cons_zero, List.getD_cons_succ, List.set_cons_zero, List.set_cons_succ, List.cons_append, List.nil_append, List.append_nil, List.map_cons, List.map_nil, List.length_cons, List.length_nil, List.all_cons, List.all_nil, Bool.and_self, Nat.reduceAdd, Nat.reduceSub, Nat.reduceMul, Nat.zero_add, List.replicate, evK_go, reduceIte, Nat.reduceEqDiff, Nat.reduceLT, and_self, Int.zero_add]
  simp (implicitDefEqProofs := false) (dsimp := false) only [lines_call, hl62, ↓aw_cond, ↓aw_seq, ↓aw_reg, ↓Qseq_n, ↓ops_nil, ↓ops_cons, ↓eval_tmp, ↓eval_int, ↓eval_nil, ↓put_some, ↓bK_b, ↓binE_i, ↓bi_eql, ↓op_move, ↓op_assign, ↓op_bin, List.getD_cons_zero, List.getD_cons_succ, List.set_cons_zero, List.set_cons_succ, Bool.true_and, Bool.true_or, Nat.reduceAdd, Nat.reduceSub, Nat.reduceMul, evK_go, reduceIte, Nat.reduceEqDiff, Nat.reduceLT, true_and]
  (repeat refine OrH.l ?_)
  refine cdK_dec (fun hc => ?_) (fun hc => ?_)
  rotate_left
  · have e1 : strongR n l = [] := if_neg hc
    have e2 : foldO n l = [] := if_neg hc
    have e3 : foldL n l = [] := if_neg hc
    simp (implicitDefEqProofs := false) (dsimp := false) only [spartsS_call, fold_call, hl62, e1, e2, e3, eerr_call, ints00_call, elines00_call, ↓cdK_true, ↓gdK_t, ↓gval_mk, ↓gvL_zero, ↓gvL_succ, ↓nthK_H, ↓nthH_zero, ↓nthH_succ, ↓aw_seq, ↓aw_ret, ↓aw_skip, ↓aw_reg, ↓Qseq_n, ↓Qret_r, ↓ops_nil, ↓ops_cons, ↓ops_guard, ↓eval_tmp, ↓eval_func, ↓put_some, ↓bK_b, ↓tK_t, ↓op_move, ↓op_assign, ↓op_pick, ↓op_extract, ↓op_call, ↓orH_T, isD_d, isD_nl, ↓fnK_f, ↓call_H, ↓callK_H, ↓allT_nil, ↓allT_cons, ↓td_d, ↓td_nl, ↓ret_1, ↓st_tm, List.getD_cons_zero, List.getD_cons_succ, List.set_cons_zero, List.set_cons_succ, List.append_nil, List.map_nil, List.all_cons, List.all_nil, Bool.and_self, Bool.true_or, Nat.reduceAdd, Nat.reduceSub, Nat.reduceMul, evK_go, reduceIte, decide_true, Nat.reduceEqDiff, Nat.reduceLT, and_self]
    (repeat (first | refine OrH.l ?_ | refine ⟨⟨rfl, by decide⟩, ?_⟩ | refine ⟨by decide, ?_⟩ | refine ⟨by omega, ?_⟩ | exact ⟨rfl, by decide⟩ | decide))
  have ok := chk_ok hc
  have hgo := goes_nat ok
  have hget := fun k (hk : k < l.length) => natL_get ok hk
  obtain ⟨m, rfl⟩ : ∃ m : Nat, n = (m : Int) := ⟨n.toNat, ok.n0⟩
  have hg : Good m (natL l) := by simpa using ok.good
  have hi8 : m ≤ 8 := by simpa using ok.hi
  have hLl : (natL l).length = l.length := by unfold natL; simp
  have e1 : strongR (m : Int) l = strongP m (natL l) := by unfold strongR; rw [if_pos hc, Int.toNat_natCast]
  have e2 : foldO (m : Int) l = fOut m (natL l) := by unfold foldO; rw [if_pos hc, Int.toNat_natCast]
  have e3 : foldL (m : Int) l = fLines m (natL l) := by unfold foldL; rw [if_pos hc, Int.toNat_natCast]
  clear ok
  rw [hc]
  generalize natL l = L at *
  have hrp : (m ≤ 40 ∧ l.length < 2 ^ 62) ∧ Good m L ∧ ∀ a b : Nat, (((a : Int), (b : Int)) ∈ l ↔ (a, b) ∈ L) := ⟨⟨by omega, hl62⟩, hg, hgo⟩
  simp (implicitDefEqProofs := false) (dsimp := false) only [rparts_call (m) l L, hrp, ↓aw_seq, ↓aw_block, ↓aw_loop, ↓aw_reg, ↓Qseq_n, ↓ops_nil, ↓ops_cons, ↓eval_tmp, ↓eval_int, ↓eval_nil, ↓eval_func, ↓put_some, ↓op_move, ↓op_assign, ↓op_call, isD_d, ↓fnK_f, ↓call_H, ↓callK_H, ↓allT_nil, ↓allT_cons, ↓td_d, List.getD_cons_zero, List.getD_cons_succ, List.set_cons_zero, List.set_cons_succ, List.append_nil, List.all_cons, List.all_nil, Bool.true_and, Bool.and_self, Bool.true_or, Nat.reduceAdd, Nat.reduceSub, Nat.reduceMul, evK_go, reduceIte, decide_true, Nat.reduceEqDiff, Nat.reduceLT, and_self, true_and]
  have hn64 : m ≤ 64 := by omega
  have hPg : ∀ i, i < m → (strongP m L).getD i default = part m L i := fun i hi => P_get hi
  have hPl : (strongP m L).length = m := by simp [strongP]
  have hroot : ∀ i, i < m → isRoot (strongP m L) (part m L i) = true ∧ part m L i < m := fun i hi => ⟨P_root hn64 hg hi, by have := (part_mut hn64 hg hi).2; omega⟩
  have hnum : ∀ i, i < m → (leastL (strongP m L) m).idxOf (part m L i) = (fOut m L).getD i default := fun i hi => num_get hn64 hg hi
  have hfold : closR (foldC (fOut m L) L) (fMany m L) (fMany m L) = fLines m L := fold_eq hn64 hg
  have hNl : (fOut m L).length = m := fOut_len
  have hMle : fMany m L ≤ m := fMany_le
  have hMr : fMany m L = rank (strongP m L) m := fMany_eq
  have hFl62 : (fLines m L).length < 2 ^ 62 := by
    rw [← hfold]
    have a1 := closR_len (foldC (fOut m L) L) (fMany m L) (fMany m L)
    have a2 : fMany m L * fMany m L ≤ 8 * 8 := Nat.mul_le_mul (by omega) (by omega)
    omega
  generalize strongP m L = P at *
  generalize fOut m L = N at *
  generalize fMany m L = q at *
  generalize fLines m L = FL at *
  generalize part m L = pt at *
  (repeat refine OrH.l ?_)
  refine ⟨fun _ _ => trivial, ?_⟩
  refine loopW (fun i : Nat => { tm := slots 149 [(0, .d (I .i64 (m : Int))), (1, .d (.l (l.map lnD))), (5, .d (I .i64 0)), (6, .d (.l (P.map nD))), (7, .nl), (8, .nl), (9, .o 0 0 (leastL P i).length), (10, .d (I .i64 i))], bx := [], rw := [some ⟨1, (leastL P i).map nD⟩] })
    (fun i => i ≤ m) (fun i => m - i) 0 (by simp) ?_ ?_
  · refine Wkn.of [] [none] ?_
    simp (implicitDefEqProofs := false) (dsimp := false) only [leastL, List.range_zero, List.filter_nil, List.map_nil, List.length_nil, ↓row_xs, List.set_cons_zero, List.set_cons_succ, List.map_nil, List.length_nil, Bool.and_self, Nat.reduceAdd, Nat.reduceSub, Nat.reduceMul, List.replicate, evK_go, reduceIte, Nat.reduceEqDiff, Nat.reduceLT, and_self, List.foldl_cons, List.foldl_nil, Int.cast_ofNat_Int, slots, wkL_nil, wkL_cons, wkB_nil, wkR_nil, wkR_new, wkV_j, wkV_d, wkV_nl, nlK_nl, wkV_o, frz_d, oK_zn, reduceCtorEq]
  · intro i hi
    have hll := leastL_len P i
    have hrl := rank_le P i
    simp (implicitDefEqProofs := false) (dsimp := false) only [slots, ↓aw_cond, ↓aw_seq, ↓aw_reg, ↓Qseq_n, ↓ops_nil, ↓ops_cons, ↓eval_tmp, ↓put_some, ↓bK_b, ↓binE_i, ↓bi_lss, ↓op_move, ↓op_bin, List.getD_cons_zero, List.getD_cons_succ, List.set_cons_zero, List.set_cons_succ, Nat.reduceAdd, Nat.reduceSub, Nat.reduceMul, List.replicate, evK_go, reduceIte, Nat.reduceEqDiff, Nat.reduceLT, List.foldl_cons, List.foldl_nil, Int.ofNat_lt]
    refine cdK_dec (fun h => ?_) (fun h => ?_)
    · have him : i < m := by omega
      have hip : i < P.length := by omega
      have hls := leastL_succ P i
      simp (implicitDefEqProofs := false) (dsimp := false) only [hip, nD, ↓atK_H, ↓atH_map, ↓aw_cond, ↓aw_seq, ↓aw_block, ↓aw_skip, ↓aw_reg, ↓Qseq_n, ↓ops_nil, ↓ops_cons, ↓eval_tmp, ↓put_some, ↓bK_b, ↓iK_i, ↓binE_i, ↓bi_eql, ↓ldK_q, ↓iaK_l, ↓op_move, ↓op_load, ↓op_bin, ↓op_ia, ↓cells_c, ↓hd_cons, ↓ty3, ↓sl24, List.getD_cons_zero, List.getD_cons_succ, List.set_cons_zero, List.set_cons_succ, List.length_cons, List.length_nil, Bool.true_and, Nat.reduceAdd, Nat.reduceSub, Nat.reduceMul, Nat.zero_add, Int.toNat_natCast, evK_go, reduceIte, Nat.reduceEqDiff, Nat.reduceLT, true_and, Int.zero_add, Int.natCast_nonneg, Int.natCast_inj]
      refine cdK_dec (fun h3 => ?_) (fun h3 => ?_)
      · have hr : isRoot P i = true := by simp (implicitDefEqProofs := false) (dsimp := false) only [isRoot, decide_eq_true_eq]; omega
        rw [hr, if_pos rfl] at hls
        simp (implicitDefEqProofs := false) (dsimp := false) only [↓optK_some, ↓rwK_H, ↓aw_reg, ↓Qseq_n, ↓Qblk_n, ↓ops_nil, ↓ops_cons, ↓eval_tmp, ↓eval_int, ↓put_some, ↓dK_d, ↓binE_i, ↓bi_add, ↓in_i64, ↓op_move, ↓op_assign, ↓op_bin, ↓op_append, ↓allD_nil, ↓allD_cons, ↓app_mk, ↓row_sz, ↓row_xs, kill_d, kill_j, kill_nl, kill_o, ↓cells_c, ↓one_i, ↓ap_, ↓ap_o, ↓src_l, ↓bs_, ↓op_bs, ↓bsL_f, ↓stored_mk, ↓sl_nil, ↓sl_cons, ↓sT_move, ↓sT_assign, ↓sT_bs, ↓sT_call, ↓vsz_int, ↓inO_1, ↓fm_nil, ↓fm_cons, ↓ty3, ↓zb3, ↓sl24, List.getD_cons_zero, List.getD_cons_succ, List.set_cons_zero, List.set_cons_succ, List.map_cons, List.map_nil, List.length_cons, List.length_nil, List.length_map, List.all_cons, List.all_nil, Bool.true_and, Bool.and_self, Bool.or_false, Nat.reduceAdd, Nat.reduceSub, Nat.reduceMul, Nat.zero_add, evK_go, reduceIte, Nat.reduceEqDiff, Nat.reduceLT, and_self, true_and, Int.zero_add, List.drop_zero]
        refine ⟨by decide, ⟨fun _ => trivial, by omega, by omega⟩, by omega, i + 1, by omega, by omega, ?_⟩
        refine Wkn.of [] [some 0] ?_
        simp (implicitDefEqProofs := false) (dsimp := false) only [hls, List.map_append, List.length_append, List.length_cons, List.length_nil, nD, List.getD_cons_zero, List.set_cons_zero, List.set_cons_succ, List.map_cons, List.map_nil, List.length_cons, List.length_nil, Bool.and_self, Nat.reduceAdd, Nat.reduceSub, Nat.reduceMul, Nat.zero_add, List.replicate, evK_go, reduceIte, Nat.reduceEqDiff, Nat.reduceLT, and_self, Int.zero_add, List.foldl_cons, List.foldl_nil, Int.cast_ofNat_Int, Int.natCast_add, slots, wkL_nil, wkL_cons, wkB_nil, wkR_nil, wkR_some, wkV_j, wkV_d, wkV_nl, nlK_nl, wkV_o, frz_d, oK_zs, reduceCtorEq]
      · have hr : isRoot P i = false := by simp (implicitDefEqProofs := false) (dsimp := false) only [isRoot, decide_eq_false_iff_not]; omega
        rw [hr, if_neg (by decide), List.append_nil] at hls
        simp (implicitDefEqProofs := false) (dsimp := false) only [↓aw_skip, ↓aw_reg, ↓Qseq_n, ↓Qblk_n, ↓ops_nil, ↓ops_cons, ↓eval_tmp, ↓eval_int, ↓put_some, ↓binE_i, ↓bi_add, ↓in_i64, ↓op_move, ↓op_assign, ↓op_bin, List.getD_cons_zero, List.getD_cons_succ, List.set_cons_zero, List.set_cons_succ, Nat.reduceAdd, Nat.reduceSub, Nat.reduceMul, evK_go, reduceIte, Nat.reduceEqDiff, Nat.reduceLT]
        refine ⟨by omega, i + 1, by omega, by omega, ?_⟩
        refine Wkn.of [] [some 0] ?_
        simp (implicitDefEqProofs := false) (dsimp := false) only [hls, List.getD_cons_zero, List.set_cons_zero, List.set_cons_succ, Bool.and_self, Nat.reduceAdd, Nat.reduceSub, Nat.reduceMul, List.replicate, evK_go, reduceIte, Nat.reduceEqDiff, Nat.reduceLT, and_self, List.foldl_cons, List.foldl_nil, Int.cast_ofNat_Int, Int.natCast_add, slots, wkL_nil, wkL_cons, wkB_nil, wkR_nil, wkR_some, wkV_j, wkV_d, wkV_nl, nlK_nl, wkV_o, frz_d, oK_zs, reduceCtorEq]
    · obtain rfl : i = m := by omega
      have hlq : (leastL P i).length = q := by omega
      have hleast : ∀ j, j < i → pt j ∈ leastL P i := fun j hj => List.mem_filter.2 ⟨List.mem_range.2 (hroot j hj).2, (hroot j hj).1⟩
      have hl0 : (leastL P i).length < 2 ^ 62 := by omega
      generalize leastL P i = LS at *
      simp (implicitDefEqProofs := false) (dsimp := false) only [↓aw_seq, ↓aw_block, ↓aw_exit, ↓aw_loop, ↓aw_reg, ↓Qseq_n, ↓Qseq_x, ↓Qblk_x, ↓ops_nil, ↓ops_cons, ↓eval_int, ↓put_some, ↓op_assign, List.set_cons_zero, List.set_cons_succ, Nat.reduceAdd, Nat.reduceSub, Nat.reduceMul, evK_go, reduceIte, decide_false, Nat.reduceEqDiff, Nat.reduceLT, Nat.lt_irrefl]
      refine loopW (fun j : Nat => { tm := slots 149 [(0, .d (I .i64 (i : Int))), (1, .d (.l (l.map lnD))), (5, .d (I .i64 0)), (6, .d (.l (P.map nD))), (7, .o 0 0 j), (8, .nl), (9, .d (.l (LS.map nD))), (11, .d (I .i64 j))], bx := [], rw := [some ⟨1, (N.take j).map nD⟩] })
        (fun j => j ≤ i) (fun j => i - j) 0 (by simp) ?_ ?_
      · refine Wkn.of [] [none] ?_
        have e4 : List.take LS.length (LS.map nD) = LS.map nD := List.take_of_length_le (by simp)
        simp (implicitDefEqProofs := false) (dsimp := false) only [e4, List.take_zero, List.map_nil, ↓optK_some, ↓row_xs, List.getD_cons_zero, List.set_cons_zero, List.set_cons_succ, List.map_nil, Bool.and_self, Nat.reduceAdd, Nat.reduceSub, Nat.reduceMul, List.replicate, evK_go, reduceIte, Nat.reduceEqDiff, Nat.reduceLT, and_self, not_false_eq_true, List.drop_zero, List.take_zero, List.foldl_cons, List.foldl_nil, Int.cast_ofNat_Int, slots, wkL_nil, wkL_cons, wkB_nil, wkR_nil, wkR_new, wkV_j, wkV_d, wkV_nl, nlK_nl, wkV_o, frz_d, frz_o, oK_zn, dl_eq, reduceCtorEq, List.mem_cons, List.not_mem_nil, or_self]
      · intro j hj
        have htl : (N.take j).length = j := by rw [List.length_take]; omega
        simp (implicitDefEqProofs := false) (dsimp := false) only [slots, ↓aw_cond, ↓aw_seq, ↓aw_reg, ↓Qseq_n, ↓ops_nil, ↓ops_cons, ↓eval_tmp, ↓put_some, ↓bK_b, ↓binE_i, ↓bi_lss, ↓op_move, ↓op_bin, List.getD_cons_zero, List.getD_cons_succ, List.set_cons_zero, List.set_cons_succ, Nat.reduceAdd, Nat.reduceSub, Nat.reduceMul, List.replicate, evK_go, reduceIte, Nat.reduceEqDiff, Nat.reduceLT, List.foldl_cons, List.foldl_nil, Int.ofNat_lt]
        refine cdK_dec (fun h => ?_) (fun h => ?_)
        · have hjm : j < i := by omega
          have hjp : j < P.length := by omega
          have hpj := hPg j hjm
          have hme := hleast j hjm
          have hnj := hnum j hjm
          have hsn := take_succ_getD (l := N) (k := j) (by omega)
          simp (implicitDefEqProofs := false) (dsimp := false) only [hjp, nD, hpj, rplaceN_call, hl0, hme, hnj, htl, ↓optK_some, ↓rwK_H, ↓atK_H, ↓atH_map, ↓aw_seq, ↓aw_block, ↓aw_skip, ↓aw_reg, ↓Qseq_n, ↓Qblk_n, ↓ops_nil, ↓ops_cons, ↓eval_tmp, ↓eval_int, ↓eval_func, ↓put_some, ↓iK_i, ↓dK_d, ↓binE_i, ↓bi_add, ↓in_i64, ↓ldK_q, ↓iaK_l, ↓op_move, ↓op_assign, ↓op_load, ↓op_bin, ↓op_ia, ↓op_append, ↓op_call, isD_d, ↓fnK_f, ↓call_H, ↓callK_H, ↓allT_nil, ↓allT_cons, ↓allD_nil, ↓allD_cons, ↓td_d, ↓app_mk, ↓row_sz, ↓row_xs, kill_d, kill_j, kill_nl, kill_o, ↓cells_c, ↓one_i, ↓ap_, ↓ap_o, ↓src_l, ↓bs_, ↓op_bs, ↓bsL_f, ↓stored_mk, ↓sl_nil, ↓sl_cons, ↓sT_move, ↓sT_assign, ↓sT_load, ↓sT_ia, ↓sT_bs, ↓sT_call, ↓vsz_int, ↓inO_1, ↓fm_nil, ↓fm_cons, ↓hd_cons, ↓ty3, ↓zb3, ↓sl24, List.getD_cons_zero, List.getD_cons_succ, List.set_cons_zero, List.set_cons_succ, List.append_nil, List.map_cons, List.map_nil, List.length_cons, List.length_nil, List.length_map, List.all_cons, List.all_nil, Bool.true_and, Bool.and_self, Bool.true_or, Bool.or_false, Nat.reduceAdd, Nat.reduceSub, Nat.reduceMul, Nat.zero_add, Int.toNat_natCast, evK_go, reduceIte, Nat.reduceEqDiff, Nat.reduceLT, and_self, true_and, Int.zero_add, List.drop_zero, Int.natCast_nonneg]
          (repeat refine OrH.l ?_)
          refine ⟨by decide, ⟨fun _ => trivial, by omega, by omega⟩, by omega, j + 1, by omega, by omega, ?_⟩
          refine Wkn.of [] [some 0] ?_
          simp (implicitDefEqProofs := false) (dsimp := false) only [hsn, List.map_append, nD, List.getD_cons_zero, List.set_cons_zero, List.set_cons_succ, List.map_cons, List.map_nil, Bool.and_self, Nat.reduceAdd, Nat.reduceSub, Nat.reduceMul, List.replicate, evK_go, reduceIte, Nat.reduceEqDiff, Nat.reduceLT, and_self, List.foldl_cons, List.foldl_nil, Int.cast_ofNat_Int, Int.natCast_add, slots, wkL_nil, wkL_cons, wkB_nil, wkR_nil, wkR_some, wkV_j, wkV_d, wkV_nl, nlK_nl, wkV_o, frz_d, oK_zs, reduceCtorEq]
        · obtain rfl : j = i := by omega
          have htN : N.take j = N := List.take_of_length_le (by omega)
          have htN2 : List.take j (N.map nD) = N.map nD := List.take_of_length_le (by simp [hNl])
          simp (implicitDefEqProofs := false) (dsimp := false) only [htN, ↓aw_seq, ↓aw_block, ↓aw_exit, ↓aw_loop, ↓aw_reg, ↓Qseq_n, ↓Qseq_x, ↓Qblk_x, ↓ops_nil, ↓ops_cons, ↓eval_int, ↓put_some, ↓op_assign, List.set_cons_zero, List.set_cons_succ, Nat.reduceAdd, Nat.reduceSub, Nat.reduceMul, evK_go, reduceIte, decide_false, Nat.reduceEqDiff, Nat.reduceLT, Nat.lt_irrefl]
          generalize hC : foldC N L = C at *
          refine loopW (fun a : Nat => { tm := slots 149 [(0, .d (I .i64 (j : Int))), (1, .d (.l (l.map lnD))), (5, .d (I .i64 0)), (6, .d (.l (P.map nD))), (7, .d (.l (N.map nD))), (8, .o 0 0 (closR C q a).length), (9, .d (.l (LS.map nD))), (12, .d (I .i64 a))], bx := [], rw := [some ⟨2, (closR C q a).map lnN⟩] })
            (fun a => a ≤ q) (fun a => q - a) 0 (by simp) ?_ ?_
          · refine Wkn.of [] [none] ?_
            simp (implicitDefEqProofs := false) (dsimp := false) only [htN2, closR_zero, List.map_nil, List.length_nil, ↓optK_some, ↓row_xs, List.getD_cons_zero, List.set_cons_zero, List.set_cons_succ, List.map_nil, List.length_nil, Bool.and_self, Nat.reduceAdd, Nat.reduceSub, Nat.reduceMul, List.replicate, evK_go, reduceIte, Nat.reduceEqDiff, Nat.reduceLT, and_self, not_false_eq_true, List.drop_zero, List.foldl_cons, List.foldl_nil, Int.cast_ofNat_Int, slots, wkL_nil, wkL_cons, wkB_nil, wkR_nil, wkR_new, wkV_j, wkV_d, nlK_nl, wkV_o, frz_d, frz_o, oK_zn, dl_eq, reduceCtorEq, List.mem_cons, List.not_mem_nil, or_self]
          · intro a ha
            have hRl := closR_len C q a
            have hRb : a * q ≤ 8 * 8 := Nat.mul_le_mul (by omega) (by omega)
            simp (implicitDefEqProofs := false) (dsimp := false) only [slots, hlq, ↓aw_cond, ↓aw_seq, ↓aw_reg, ↓Qseq_n, ↓ops_nil, ↓ops_cons, ↓eval_tmp, ↓put_some, ↓bK_b, ↓lenK_l, ↓binE_i, ↓bi_lss, ↓op_move, ↓op_bin, ↓op_len, ↓sl24, List.getD_cons_zero, List.getD_cons_succ, List.set_cons_zero, List.set_cons_succ, List.length_map, Nat.reduceAdd, Nat.reduceSub, Nat.reduceMul, List.replicate, evK_go, reduceIte, Nat.reduceEqDiff, Nat.reduceLT, List.foldl_cons, List.foldl_nil, Int.ofNat_lt]
            refine cdK_dec (fun h => ?_) (fun h => ?_)
            rotate_left
            · obtain rfl : a = q := by omega
              have hFN : N.length < 2 ^ 62 := by omega
              have hFP : P.length < 2 ^ 62 := by omega
              have hlen : FL.length = (closR C a a).length := by rw [hfold]
              have e9 : List.take FL.length (FL.map lnN) = FL.map lnN := List.take_of_length_le (by simp)
              simp (implicitDefEqProofs := false) (dsimp := false) only [hfold, e9, spartsS_call, fold_call, hl62, e1, e2, e3, hc, eerr_call, intsN_call, hFN, hFP, elinesN_call, hFl62, ↓cdK_true, ↓gdK_t, ↓gval_mk, ↓gvL_zero, ↓gvL_succ, ↓optK_some, ↓rwK_H, ↓nthK_H, ↓nthH_zero, ↓nthH_succ, ↓aw_seq, ↓aw_exit, ↓aw_ret, ↓aw_reg, ↓Qseq_n, ↓Qseq_x, ↓Qblk_x, ↓Qret_r, ↓ops_nil, ↓ops_cons, ↓ops_guard, ↓eval_tmp, ↓eval_func, ↓put_some, ↓bK_b, ↓tK_t, ↓op_move, ↓op_assign, ↓op_pick, ↓op_extract, ↓op_call, isD_d, isD_o, ↓fnK_f, ↓call_H, ↓callK_H, ↓allT_nil, ↓allT_cons, ↓td_d, ↓td_o, ↓ret_1, ↓st_tm, ↓row_xs, List.getD_cons_zero, List.getD_cons_succ, List.set_cons_zero, List.set_cons_succ, List.append_nil, List.all_cons, List.all_nil, Bool.and_true, Bool.true_and, Bool.and_self, Bool.and_false, Bool.true_or, Bool.false_or, Nat.reduceAdd, Nat.reduceSub, Nat.reduceMul, evK_go, reduceIte, decide_true, decide_false, Nat.reduceEqDiff, Nat.reduceLT, and_self, true_and, and_true, Nat.lt_irrefl, List.drop_zero]
              (repeat (first | refine OrH.l ?_ | refine ⟨⟨rfl, by decide⟩, ?_⟩ | refine ⟨by decide, ?_⟩ | refine ⟨by omega, ?_⟩ | exact ⟨rfl, by decide⟩ | decide))
            have haq : a < q := by omega
            simp (implicitDefEqProofs := false) (dsimp := false) only [↓aw_seq, ↓aw_block, ↓aw_skip, ↓aw_loop, ↓aw_reg, ↓Qseq_n, ↓ops_nil, ↓ops_cons, ↓eval_int, ↓put_some, ↓op_assign, List.set_cons_zero, List.set_cons_succ, Nat.reduceAdd, Nat.reduceSub, Nat.reduceMul, evK_go, reduceIte, Nat.reduceEqDiff, Nat.reduceLT]
            refine loopW (fun b : Nat => { tm := slots 149 [(0, .d (I .i64 (j : Int))), (1, .d (.l (l.map lnD))), (5, .d (I .i64 0)), (6, .d (.l (P.map nD))), (7, .d (.l (N.map nD))), (8, .o 0 0 (closR C q a ++ closC C a b).length), (9, .d (.l (LS.map nD))), (12, .d (I .i64 a)), (13, .d (I .i64 b))], bx := [], rw := [some ⟨2, (closR C q a ++ closC C a b).map lnN⟩] })
              (fun b => b ≤ q) (fun b => q - b) 0 (by simp) ?_ ?_
            · refine Wkn.of [] [some 0] ?_
              simp (implicitDefEqProofs := false) (dsimp := false) only [closC_zero, List.append_nil, List.getD_cons_zero, List.set_cons_zero, List.set_cons_succ, List.append_nil, Bool.and_self, Nat.reduceAdd, Nat.reduceSub, Nat.reduceMul, List.replicate, evK_go, reduceIte, Nat.reduceEqDiff, Nat.reduceLT, and_self, List.foldl_cons, List.foldl_nil, Int.cast_ofNat_Int, slots, wkL_nil, wkL_cons, wkB_nil, wkR_nil, wkR_some, wkV_j, wkV_d, wkV_o, frz_d, oK_zs, reduceCtorEq]
            · intro b hb
              have hCl := closC_len C a b
              have hlen : (closR C q a ++ closC C a b).length ≤ 2000 := by rw [List.length_append]; omega
              simp (implicitDefEqProofs := false) (dsimp := false) only [slots, hlq, ↓aw_cond, ↓aw_seq, ↓aw_reg, ↓Qseq_n, ↓ops_nil, ↓ops_cons, ↓eval_tmp, ↓put_some, ↓bK_b, ↓lenK_l, ↓binE_i, ↓bi_lss, ↓op_move, ↓op_bin, ↓op_len, ↓sl24, List.getD_cons_zero, List.getD_cons_succ, List.set_cons_zero, List.set_cons_succ, List.length_map, Nat.reduceAdd, Nat.reduceSub, Nat.reduceMul, List.replicate, evK_go, reduceIte, Nat.reduceEqDiff, Nat.reduceLT, List.foldl_cons, List.foldl_nil, Int.ofNat_lt]
              refine cdK_dec (fun h => ?_) (fun h => ?_)
              rotate_left
              · obtain rfl : b = q := by omega
                simp (implicitDefEqProofs := false) (dsimp := false) only [↓aw_seq, ↓aw_exit, ↓aw_reg, ↓Qseq_n, ↓Qseq_x, ↓Qblk_n, ↓Qblk_x, ↓ops_nil, ↓ops_cons, ↓eval_tmp, ↓eval_int, ↓eval_func, ↓put_some, ↓binE_i, ↓bi_add, ↓in_i64, ↓op_move, ↓op_assign, ↓op_bin, ↓op_call, isD_d, ↓fnK_f, ↓call_H, ↓callK_H, ↓allT_nil, ↓allT_cons, ↓td_d, List.getD_cons_zero, List.getD_cons_succ, List.set_cons_zero, List.set_cons_succ, List.append_nil, List.all_cons, List.all_nil, Bool.and_self, Nat.reduceAdd, Nat.reduceSub, Nat.reduceMul, evK_go, reduceIte, decide_false, Nat.reduceEqDiff, Nat.reduceLT, and_self, Nat.lt_irrefl]
                refine ⟨by omega, a + 1, by omega, by omega, ?_⟩
                refine Wkn.of [] [some 0] ?_
                simp (implicitDefEqProofs := false) (dsimp := false) only [closR_succ, List.getD_cons_zero, List.set_cons_zero, List.set_cons_succ, Bool.and_self, Nat.reduceAdd, Nat.reduceSub, Nat.reduceMul, List.replicate, evK_go, reduceIte, Nat.reduceEqDiff, Nat.reduceLT, and_self, List.foldl_cons, List.foldl_nil, Int.cast_ofNat_Int, Int.natCast_add, slots, wkL_nil, wkL_cons, wkB_nil, wkR_nil, wkR_some, wkV_j, wkV_d, wkV_o, frz_d, oK_zs, reduceCtorEq]
              have hbq : b < q := by omega
              simp (implicitDefEqProofs := false) (dsimp := false) only [↓aw_seq, ↓aw_block, ↓aw_skip, ↓aw_loop, ↓aw_reg, ↓Qseq_n, ↓ops_nil, ↓ops_cons, ↓eval_int, ↓eval_bool, ↓put_some, ↓op_assign, List.set_cons_zero, List.set_cons_succ, Nat.reduceAdd, Nat.reduceSub, Nat.reduceMul, evK_go, reduceIte, Nat.reduceEqDiff, Nat.reduceLT]
              refine loopW (fun k : Nat => { tm := slots 149 [(0, .d (I .i64 (j : Int))), (1, .d (.l (l.map lnD))), (5, .d (I .i64 0)), (6, .d (.l (P.map nD))), (7, .d (.l (N.map nD))), (8, .o 0 0 (closR C q a ++ closC C a b).length), (9, .d (.l (LS.map nD))), (12, .d (I .i64 a)), (13, .d (I .i64 b)), (14, .d (Bo (crossB N (L.take k) a b))), (15, .d (I .i64 k))], bx := [], rw := [some ⟨2, (closR C q a ++ closC C a b).map lnN⟩] })
                (fun k => k ≤ l.length) (fun k => l.length - k) 0 (by simp) ?_ ?_
              · refine Wkn.of [] [some 0] ?_
                simp (implicitDefEqProofs := false) (dsimp := false) only [crossB, List.take_zero, List.any_nil, List.getD_cons_zero, List.set_cons_zero, List.set_cons_succ, Bool.and_self, Nat.reduceAdd, Nat.reduceSub, Nat.reduceMul, List.replicate, evK_go, reduceIte, Nat.reduceEqDiff, Nat.reduceLT, and_self, List.take_zero, List.foldl_cons, List.foldl_nil, Int.cast_ofNat_Int, slots, wkL_nil, wkL_cons, wkB_nil, wkR_nil, wkR_some, wkV_j, wkV_d, wkV_o, frz_d, oK_zs, reduceCtorEq]
              · intro k hk
                have hend : k = l.length → crossB N (L.take k) a b = crossB N L a b := fun e => by rw [List.take_of_length_le (by omega)]
                have hs := fun h => crossB_succ N (l := L) a b (k := k) h
                generalize crossB N (L.take k) a b = t at hs hend ⊢
                simp (implicitDefEqProofs := false) (dsimp := false) only [slots, ↓aw_cond, ↓aw_seq, ↓aw_reg, ↓Qseq_n, ↓ops_nil, ↓ops_cons, ↓eval_tmp, ↓put_some, ↓bK_b, ↓lenK_l, ↓binE_i, ↓bi_lss, ↓op_move, ↓op_bin, ↓op_len, ↓sl22, List.getD_cons_zero, List.getD_cons_succ, List.set_cons_zero, List.set_cons_succ, List.length_map, Nat.reduceAdd, Nat.reduceSub, Nat.reduceMul, List.replicate, evK_go, reduceIte, Nat.reduceEqDiff, Nat.reduceLT, List.foldl_cons, List.foldl_nil, Int.ofNat_lt]
                refine cdK_dec (fun h => ?_) (fun h => ?_)
                · have hkl : k < l.length := by omega
                  have hkL : k < L.length := by omega
                  have hs := hs hkL
                  obtain ⟨hA, hB⟩ := hg _ (getD_mem hkL)
                  have hgk := hget k hkl
                  generalize L.getD k default = p at hs hA hB hgk
                  have hAN : p.1 < N.length := by omega
                  have hBN : p.2 < N.length := by omega
                  cases t with
                  | true =>
                    rw [Bool.true_or] at hs
                    simp (implicitDefEqProofs := false) (dsimp := false) only [↓cdK_true, ↓gdK_junk, ↓gdK_f, ↓gval_mk, ↓gvL_zero, ↓gvL_succ, ↓aw_seq, ↓aw_block, ↓aw_skip, ↓aw_reg, ↓Qseq_n, ↓Qblk_n, ↓ops_nil, ↓ops_cons, ↓ops_guard, ↓eval_tmp, ↓eval_int, ↓eval_bool, ↓put_some, ↓bK_b, ↓binE_i, ↓bi_add, ↓in_i64, ↓op_move, ↓op_assign, ↓op_pick, ↓op_bin, ↓st_tm, List.getD_cons_zero, List.getD_cons_succ, List.set_cons_zero, List.set_cons_succ, Nat.reduceAdd, Nat.reduceSub, Nat.reduceMul, evK_go, reduceIte, Nat.reduceEqDiff, Nat.reduceLT]
                    refine ⟨by omega, k + 1, by omega, by omega, ?_⟩
                    refine Wkn.of [] [some 0] ?_
                    simp (implicitDefEqProofs := false) (dsimp := false) only [hs, List.getD_cons_zero, List.set_cons_zero, List.set_cons_succ, Bool.and_self, Nat.reduceAdd, Nat.reduceSub, Nat.reduceMul, List.replicate, evK_go, reduceIte, Nat.reduceEqDiff, Nat.reduceLT, and_self, List.foldl_cons, List.foldl_nil, Int.cast_ofNat_Int, Int.natCast_add, slots, wkL_nil, wkL_cons, wkB_nil, wkR_nil, wkR_some, wkV_j, wkV_d, wkV_o, frz_d, oK_zs, reduceCtorEq]
                  | false =>
                    rw [Bool.false_or] at hs
                    by_cases h1 : N.getD p.1 default = a
                    · have d1 := decide_eq_true h1
                      rw [d1, Bool.true_and] at hs
                      have d1i : decide ((N.getD p.1 default : Int) = (a : Int)) = true := decide_eq_true (by omega)
                      simp (implicitDefEqProofs := false) (dsimp := false) only [hkl, hgk, lnD, nD, hAN, hBN, d1, ↓cdK_true, ↓cdK_false, ↓gdK_t, ↓gdK_f, ↓gval_mk, ↓gvL_zero, ↓gvL_succ, ↓atK_H, ↓atH_map, ↓aw_seq, ↓aw_block, ↓aw_skip, ↓aw_reg, ↓Qseq_n, ↓Qblk_n, ↓ops_nil, ↓ops_cons, ↓ops_guard, ↓eval_tmp, ↓eval_int, ↓put_some, ↓bK_b, ↓iK_i, ↓binE_i, ↓bi_add, ↓bi_eql, ↓in_i64, ↓ldK_q, ↓faK_q, ↓iaK_l, ↓op_move, ↓op_assign, ↓op_pick, ↓op_load, ↓op_bin, ↓op_fa, ↓op_ia, ↓st_tm, ↓cells_c, ↓cells_s, ↓hd_cons, ↓ty3, ↓sl22, ↓sl24, ↓ty41, ↓fd41_0, ↓fd41_1, List.getD_cons_zero, List.getD_cons_succ, List.set_cons_zero, List.set_cons_succ, List.length_cons, List.length_nil, Bool.true_and, Nat.reduceAdd, Nat.reduceSub, Nat.reduceMul, Nat.zero_add, Int.toNat_natCast, evK_go, reduceIte, decide_true, Nat.reduceEqDiff, Nat.reduceLT, true_and, Int.zero_add, List.drop_zero, List.drop_succ_cons, Int.natCast_nonneg, Int.natCast_inj]
                      refine ⟨by omega, k + 1, by omega, by omega, ?_⟩
                      refine Wkn.of [] [some 0] ?_
                      simp (implicitDefEqProofs := false) (dsimp := false) only [hs, List.getD_cons_zero, List.set_cons_zero, List.set_cons_succ, Bool.and_self, Nat.reduceAdd, Nat.reduceSub, Nat.reduceMul, List.replicate, evK_go, reduceIte, Nat.reduceEqDiff, Nat.reduceLT, and_self, List.foldl_cons, List.foldl_nil, Int.cast_ofNat_Int, Int.natCast_add, slots, wkL_nil, wkL_cons, wkB_nil, wkR_nil, wkR_some, wkV_j, wkV_d, wkV_o, frz_d, oK_zs, reduceCtorEq]
                    · have d1 := decide_eq_false h1
                      rw [d1, Bool.false_and] at hs
                      have d1i : decide ((N.getD p.1 default : Int) = (a : Int)) = false := decide_eq_false (by omega)
                      simp (implicitDefEqProofs := false) (dsimp := false) only [hkl, hgk, lnD, nD, hAN, d1, ↓cdK_false, ↓gdK_t, ↓gdK_f, ↓gval_mk, ↓gvL_zero, ↓gvL_succ, ↓atK_H, ↓atH_map, ↓aw_seq, ↓aw_block, ↓aw_skip, ↓aw_reg, ↓Qseq_n, ↓Qblk_n, ↓ops_nil, ↓ops_cons, ↓ops_guard, ↓eval_tmp, ↓eval_int, ↓eval_bool, ↓put_some, ↓bK_b, ↓iK_i, ↓binE_i, ↓bi_add, ↓bi_eql, ↓in_i64, ↓ldK_q, ↓faK_q, ↓iaK_l, ↓op_move, ↓op_assign, ↓op_pick, ↓op_load, ↓op_bin, ↓op_fa, ↓op_ia, ↓st_tm, ↓cells_c, ↓cells_s, ↓hd_cons, ↓ty3, ↓sl22, ↓sl24, ↓ty41, ↓fd41_0, List.getD_cons_zero, List.getD_cons_succ, List.set_cons_zero, List.set_cons_succ, List.length_cons, List.length_nil, Bool.true_and, Nat.reduceAdd, Nat.reduceSub, Nat.reduceMul, Nat.zero_add, Int.toNat_natCast, evK_go, reduceIte, decide_true, Nat.reduceEqDiff, Nat.reduceLT, true_and, Int.zero_add, List.drop_zero, Int.natCast_nonneg, Int.natCast_inj]
                      refine ⟨by omega, k + 1, by omega, by omega, ?_⟩
                      refine Wkn.of [] [some 0] ?_
                      simp (implicitDefEqProofs := false) (dsimp := false) only [hs, List.getD_cons_zero, List.set_cons_zero, List.set_cons_succ, Bool.and_self, Nat.reduceAdd, Nat.reduceSub, Nat.reduceMul, List.replicate, evK_go, reduceIte, Nat.reduceEqDiff, Nat.reduceLT, and_self, List.foldl_cons, List.foldl_nil, Int.cast_ofNat_Int, Int.natCast_add, slots, wkL_nil, wkL_cons, wkB_nil, wkR_nil, wkR_some, wkV_j, wkV_d, wkV_o, frz_d, oK_zs, reduceCtorEq]
                · have hcr := hend (by omega)
                  rw [hcr]
                  have hsC := closC_succ C a b
                  have hCab : C a b = (crossB N L a b && decide (a ≠ b)) := by rw [← hC]; rfl
                  cases hx : crossB N L a b with
                  | false =>
                    rw [hx, Bool.false_and] at hCab
                    rw [hCab, if_neg (by decide), List.append_nil] at hsC
                    simp (implicitDefEqProofs := false) (dsimp := false) only [↓cdK_false, ↓gdK_t, ↓gval_mk, ↓gvL_zero, ↓gvL_succ, ↓aw_cond, ↓aw_seq, ↓aw_exit, ↓aw_skip, ↓aw_reg, ↓Qseq_n, ↓Qseq_x, ↓Qblk_n, ↓Qblk_x, ↓ops_nil, ↓ops_cons, ↓ops_guard, ↓eval_tmp, ↓eval_int, ↓eval_bool, ↓eval_func, ↓put_some, ↓bK_b, ↓binE_i, ↓bi_add, ↓in_i64, ↓op_move, ↓op_assign, ↓op_pick, ↓op_bin, ↓op_call, isD_d, ↓fnK_f, ↓call_H, ↓callK_H, ↓allT_nil, ↓allT_cons, ↓td_d, ↓st_tm, List.getD_cons_zero, List.getD_cons_succ, List.set_cons_zero, List.set_cons_succ, List.append_nil, List.all_cons, List.all_nil, Bool.and_self, Nat.reduceAdd, Nat.reduceSub, Nat.reduceMul, evK_go, reduceIte, Nat.reduceEqDiff, Nat.reduceLT, and_self]
                    refine ⟨by omega, b + 1, by omega, by omega, ?_⟩
                    refine Wkn.of [] [some 0] ?_
                    simp (implicitDefEqProofs := false) (dsimp := false) only [hsC, List.getD_cons_zero, List.set_cons_zero, List.set_cons_succ, Bool.and_self, Nat.reduceAdd, Nat.reduceSub, Nat.reduceMul, List.replicate, evK_go, reduceIte, Nat.reduceEqDiff, Nat.reduceLT, and_self, List.foldl_cons, List.foldl_nil, Int.cast_ofNat_Int, Int.natCast_add, slots, wkL_nil, wkL_cons, wkB_nil, wkR_nil, wkR_some, wkV_j, wkV_d, wkV_o, frz_d, oK_zs, reduceCtorEq]
                  | true =>
                    rw [hx, Bool.true_and] at hCab
                    by_cases hab : a = b
                    · have d1 : decide (a ≠ b) = false := decide_eq_false (fun h => h hab)
                      rw [hCab, d1, if_neg (by decide), List.append_nil] at hsC
                      have d2 := decide_eq_true hab
                      simp (implicitDefEqProofs := false) (dsimp := false) only [d2, ↓cdK_true, ↓cdK_false, ↓gdK_t, ↓gval_mk, ↓gvL_zero, ↓gvL_succ, ↓aw_cond, ↓aw_seq, ↓aw_exit, ↓aw_skip, ↓aw_reg, ↓Qseq_n, ↓Qseq_x, ↓Qblk_n, ↓Qblk_x, ↓ops_nil, ↓ops_cons, ↓ops_guard, ↓eval_tmp, ↓eval_int, ↓eval_func, ↓put_some, ↓bK_b, ↓binE_i, ↓bi_add, ↓bi_neq, ↓in_i64, ↓op_move, ↓op_assign, ↓op_pick, ↓op_bin, ↓op_call, isD_d, ↓fnK_f, ↓call_H, ↓callK_H, ↓allT_nil, ↓allT_cons, ↓td_d, ↓st_tm, List.getD_cons_zero, List.getD_cons_succ, List.set_cons_zero, List.set_cons_succ, List.append_nil, List.all_cons, List.all_nil, Bool.and_self, Nat.reduceAdd, Nat.reduceSub, Nat.reduceMul, evK_go, reduceIte, Bool.not_true, Nat.reduceEqDiff, Nat.reduceLT, and_self, Int.natCast_inj]
                      refine ⟨by omega, b + 1, by omega, by omega, ?_⟩
                      refine Wkn.of [] [some 0] ?_
                      simp (implicitDefEqProofs := false) (dsimp := false) only [hsC, List.getD_cons_zero, List.set_cons_zero, List.set_cons_succ, Bool.and_self, Nat.reduceAdd, Nat.reduceSub, Nat.reduceMul, List.replicate, evK_go, reduceIte, Nat.reduceEqDiff, Nat.reduceLT, and_self, List.foldl_cons, List.foldl_nil, Int.cast_ofNat_Int, Int.natCast_add, slots, wkL_nil, wkL_cons, wkB_nil, wkR_nil, wkR_some, wkV_j, wkV_d, wkV_o, frz_d, oK_zs, reduceCtorEq]
                    · have d1 : decide (a ≠ b) = true := decide_eq_true hab
                      rw [hCab, d1, if_pos rfl] at hsC
                      have d2 := decide_eq_false hab
                      simp (implicitDefEqProofs := false) (dsimp := false) only [d2, ↓cdK_true, ↓gdK_t, ↓gval_mk, ↓gvL_zero, ↓gvL_succ, ↓optK_some, ↓rwK_H, ↓aw_cond, ↓aw_seq, ↓aw_exit, ↓aw_reg, ↓Qseq_n, ↓Qseq_x, ↓Qblk_n, ↓Qblk_x, ↓ops_nil, ↓ops_cons, ↓ops_guard, ↓eval_tmp, ↓eval_int, ↓eval_func, ↓put_some, ↓bK_b, ↓dK_d, ↓binE_i, ↓bi_add, ↓bi_neq, ↓in_i64, ↓op_move, ↓op_assign, ↓op_pick, ↓op_bin, ↓op_build, ↓op_append, ↓op_call, isD_d, ↓fnK_f, ↓call_H, ↓callK_H, ↓allT_nil, ↓allT_cons, ↓allD_nil, ↓allD_cons, ↓td_d, ↓app_mk, ↓st_tm, ↓row_sz, ↓row_xs, kill_d, kill_j, kill_o, ↓cells_c, ↓cells_s, ↓one_i, ↓ap_, ↓ap_o, ↓src_l, ↓bs_, ↓op_bs, ↓bsL_f, ↓stored_mk, ↓sl_nil, ↓sl_cons, ↓sT_move, ↓sT_assign, ↓sT_build, ↓sT_bs, ↓sT_call, ↓vsz_agg, ↓inO_1, ↓fm_nil, ↓fm_cons, ↓sl22, ↓ty41, ↓zb41, ↓bd41, List.getD_cons_zero, List.getD_cons_succ, List.set_cons_zero, List.set_cons_succ, List.cons_append, List.nil_append, List.append_nil, List.map_cons, List.map_nil, List.length_cons, List.length_nil, List.length_map, List.all_cons, List.all_nil, Bool.true_and, Bool.and_self, Bool.or_false, Nat.reduceAdd, Nat.reduceSub, Nat.reduceMul, Nat.zero_add, evK_go, reduceIte, Bool.not_false, Nat.reduceEqDiff, Nat.reduceLT, and_self, true_and, Int.zero_add, List.drop_zero, Int.natCast_inj]
                      refine ⟨⟨rfl, by decide⟩, rfl, ⟨fun _ => trivial, by omega, by omega⟩, by omega, b + 1, by omega, by omega, ?_⟩
                      refine Wkn.of [] [some 0] ?_
                      simp (implicitDefEqProofs := false) (dsimp := false) only [hsC, List.map_append, List.map_cons, List.map_nil, List.length_append, List.length_cons, List.length_nil, List.append_assoc, Nat.add_assoc, lnN, List.getD_cons_zero, List.set_cons_zero, List.set_cons_succ, List.map_cons, List.map_nil, List.length_cons, List.length_nil, Bool.and_self, Nat.reduceAdd, Nat.reduceSub, Nat.reduceMul, Nat.zero_add, List.replicate, evK_go, reduceIte, Nat.reduceEqDiff, Nat.reduceLT, and_self, Int.zero_add, List.foldl_cons, List.foldl_nil, Int.cast_ofNat_Int, Int.natCast_add, slots, wkL_nil, wkL_cons, wkB_nil, wkR_nil, wkR_some, wkV_j, wkV_d, wkV_o, frz_d, oK_zs, reduceCtorEq]
end Go.Proofs

namespace Go.Proofs
set_option maxRecDepth 100000
theorem cutNo : ("cut".toList == "gc".toList || "cut".toList == "spec".toList) = false := by kernel_rfl
theorem cutNo2 : ("cut".toList == "carried".toList) = false := by kernel_rfl
theorem cutStrip (T : List (List Char)) : stripLifts liftWords ("cut".toList :: T) = ([], "cut".toList :: T) := by kernel_rfl
theorem make_of {P : Program} {T : List (List Char)} (h : behindMainWord (wordsSigns P.initOrder.toList) = "cut".toList :: T) : P.make = some .cut := by
  unfold Program.make
  rw [h]
  simp (implicitDefEqProofs := false) (dsimp := false) only [cutNo, beq_self_eq_true, Bool.true_or, Bool.false_eq_true, if_false, if_true]
theorem enter_of {P : Program} {T : List (List Char)} (h : behindMainWord (wordsSigns P.initOrder.toList) = "cut".toList :: T) (h1 : P.laysLater = false) (h2 : P.bearsReflect = false) (h3 : P.doorFits [] = true) : P.mayEnter = true := by
  unfold Program.mayEnter
  rw [h]
  simp (implicitDefEqProofs := false) (dsimp := false) only [cutStrip, cutNo, cutNo2, h1, h2, h3, List.head?_cons, beq_self_eq_true, Bool.not_false, Bool.or_true, Bool.and_true, Bool.true_and]
  rfl
theorem final_of {P : Program} {T : List (List Char)} (h : behindMainWord (wordsSigns P.initOrder.toList) = "cut".toList :: T) : P.liftsFinal = false := by
  unfold Program.liftsFinal Program.headLifts
  rw [h]
  simp (implicitDefEqProofs := false) (dsimp := false) only [cutStrip]
  kernel_rfl
theorem cutWord : behindMainWord (wordsSigns Tryd.prog.initOrder.toList) = "cut".toList :: (behindMainWord (wordsSigns Tryd.prog.initOrder.toList)).tail := by
  have h : Tryd.prog.initOrder.toList = _ := String.toList_ofList
  rw [h]
  show (_ : List (List Char)) = _
  kernel_rfl
theorem pLater : Tryd.prog.laysLater = false := by
  unfold Program.laysLater
  rw [← Array.any_toList]
  kernel_rfl
theorem pReflect : Tryd.prog.bearsReflect = false := by kernel_rfl
theorem pDoor : Tryd.prog.doorFits [] = true := by kernel_rfl
theorem pMake : Tryd.prog.make = some .cut := make_of cutWord
theorem pEnter : Tryd.prog.mayEnter = true := enter_of cutWord pLater pReflect pDoor
theorem pFinal : Tryd.prog.liftsFinal = false := final_of cutWord
theorem pLaid : laidOutB Tryd.prog = true := by kernel_rfl
theorem pRowed : mapsRowed Tryd.prog = true := by kernel_rfl
theorem pStops : (Tryd.prog.stops == []) = true := by kernel_rfl
theorem pKnobs : (Tryd.prog.stopKnobs == []) = true := by kernel_rfl
theorem pHeard : Tryd.prog.stopsHeard = true := by kernel_rfl
theorem pMain : Tryd.prog.mainIs = some (true, "ef528b23815b70c2662300e7e3ba81efdd8130d758234ace3c638d7836b90011".toList) := by
  have h : Tryd.prog.initOrder.toList = _ := String.toList_ofList
  unfold Program.mainIs
  rw [h]
  show (_ : Option (Bool × List Char)) = _
  kernel_rfl
theorem pLooks : true = Tryd.prog.looks [] := by kernel_rfl
theorem pOwn : ownKnob Tryd.prog.godebug = none := by kernel_rfl
theorem andB {a b : Bool} (ha : a = true) (hb : b = true) : (a && b) = true := by rw [ha, hb]; rfl
end Go.Proofs
