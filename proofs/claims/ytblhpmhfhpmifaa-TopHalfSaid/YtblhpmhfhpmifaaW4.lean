/- Part W 4 of what the proof of TopHalf stands on: what the functions of the program compute. -/
import Derived.Test.YtblhpmhfhpmifaaW3
set_option linter.unusedVariables false
set_option linter.unusedSimpArgs false
namespace Go.Proofs
open Go.Aw
set_option linter.unusedSimpArgs false
set_option maxRecDepth 10000
theorem t_flat (n e : Int) : D.flat (.t [I .i64 n, erD e]) = true := by unfold erD; split <;> rfl
theorem most_mn {left right : Int} {l : List (Int × Int)} (h : mchk left right l = 0) : MN (natL l) (mostR left right l) := by
  have ok := mchk_ok h
  rw [show mostR left right l = mostK (kuhn left.toNat right.toNat (natL l)) from if_pos h]
  exact most_MN ok.sides (by have := ok.lhi; omega) (by have := ok.rhi; omega)
theorem most_le {left right : Int} {l : List (Int × Int)} (h : mchk left right l = 0) : mostR left right l ≤ left.toNat ∧ mostR left right l ≤ right.toNat := by
  have ok := mchk_ok h
  obtain ⟨⟨M, h1, h2⟩, _⟩ := most_mn h
  have a := pig (M := List.range left.toNat) h1.fst (fun x hx => by
    obtain ⟨p, hp, rfl⟩ := List.mem_map.1 hx
    simpa using (ok.sides _ (h1.sub p hp)).1)
  have b := pig (M := List.range right.toNat) h1.snd (fun x hx => by
    obtain ⟨p, hp, rfl⟩ := List.mem_map.1 hx
    simpa using (ok.sides _ (h1.sub p hp)).2)
  simp (implicitDefEqProofs := false) (dsimp := false) only [List.length_map, List.length_range] at a b
  omega
theorem mchk_back {left right : Int} {l : List (Int × Int)} : mchk right left (backI l) = 0 ↔ mchk left right l = 0 := by
  rw [mchk_iff, mchk_iff]
  have hl : (backI l).length = l.length := by simp [backI]
  rw [hl]
  have hm : ∀ p, p ∈ backI l ↔ flipI p ∈ l := fun p => by
    unfold backI
    rw [List.mem_map]
    constructor
    · rintro ⟨q, hq, rfl⟩; simpa [flipI] using hq
    · intro h; exact ⟨flipI p, by simpa using h, rfl⟩
  constructor
  · rintro ⟨⟨h1, h2⟩, h3, h4⟩
    refine ⟨⟨h2, h1⟩, h3, fun p hp => ?_⟩
    have := h4 (flipI p) ((hm _).2 hp)
    exact ⟨this.2, this.1⟩
  · rintro ⟨⟨h1, h2⟩, h3, h4⟩
    refine ⟨⟨h2, h1⟩, h3, fun p hp => ?_⟩
    have := h4 (flipI p) ((hm _).1 hp)
    exact ⟨this.2, this.1⟩
theorem most_back {left right : Int} {l : List (Int × Int)} (h : mchk left right l = 0) : mostR right left (backI l) = mostR left right l := by
  have h1 := most_mn h
  have h2 := most_mn (mchk_back.2 h)
  rw [natL_back] at h2
  exact h2.unique (h1.flip fun a b => by rw [back_mem, flip_mem])
theorem most_more {left right : Int} {l : List (Int × Int)} {p : Int × Int} (h : mchk left right l = 0) (h2 : mchk left right (l ++ [p]) = 0) : mostR left right (l ++ [p]) = mostR left right l ∨ mostR left right (l ++ [p]) = mostR left right l + 1 := by
  refine (most_mn h).more (most_mn h2) (e := natP p) fun q => ?_
  unfold natL
  simp
theorem mchk_more {left right : Int} {l : List (Int × Int)} {p : Int × Int} (h : mchk left right l = 0) (h2 : mchk left right (l ++ [p]) ≠ 0) : l.length = 24 ∨ inB p.1 0 (left - 1) = false ∨ inB p.2 0 (right - 1) = false := by
  refine Classical.byContradiction fun hno => h2 ?_
  rw [not_or, not_or, Bool.not_eq_false, Bool.not_eq_false, inB_iff, inB_iff] at hno
  rw [mchk_iff] at h ⊢
  refine ⟨h.1, by simp; omega, fun q hq => ?_⟩
  rcases List.mem_append.1 hq with hq | hq
  · exact h.2.2 q hq
  · rw [List.mem_singleton.1 hq]; exact ⟨hno.2.1, hno.2.2⟩
end Go.Proofs

namespace Go.Proofs
open Go.Aw
set_option linter.unusedSimpArgs false
set_option maxRecDepth 10000
set_option maxHeartbeats 1000000
theorem th1_spec  : FnD Try.prog 46 [.l [.l [I .i64 0]], .l [.l [I .i64 0]]] (.t [.l [I .i64 0], erD 0]) := by
  have h := spairs_spec [[0]] [[0]] (by decide)
  rw [show pairsR [[0]] [[0]] = [0] by decide +kernel, show stE [[0]] [[0]] = 0 by decide +kernel] at h
  exact h
theorem th1_call  (pure : Bool) (σ : St) (dst : Option Tmp) (K : St → Prop) : CallH Try.prog 46 [.l [.l [I .i64 0]], .l [.l [I .i64 0]]] pure σ dst (.mk : Hid K) = OrH ((pure || D.flat (.t [.l [I .i64 0], erD 0])) = true ∧ evK (σ.put dst (.d (.t [.l [I .i64 0], erD 0]))) (.mk : Hid K)) (.mk : Hid (CallH Try.prog 46 [.l [.l [I .i64 0]], .l [.l [I .i64 0]]] pure σ dst (.mk : Hid K))) := CallH.eq0 (th1_spec ) pure σ dst K
theorem th1_callQ  (pure : Bool) (C : V → Prop) : CallQ Try.prog 46 [.l [.l [I .i64 0]], .l [.l [I .i64 0]]] pure (.mk : Hid C) = OrH ((pure || D.flat (.t [.l [I .i64 0], erD 0])) = true ∧ evK (V.d (.t [.l [I .i64 0], erD 0])) (.mk : Hid C)) (.mk : Hid (CallQ Try.prog 46 [.l [.l [I .i64 0]], .l [.l [I .i64 0]]] pure (.mk : Hid C))) := CallQ.eq0 (th1_spec ) pure C
theorem th2_spec  : FnD Try.prog 44 [.l [I .i64 0], .l [I .i64 0]] (Bo true) := by
  have h := ints_spec [0] [0] (by decide)
  exact h
theorem th2_call  (pure : Bool) (σ : St) (dst : Option Tmp) (K : St → Prop) : CallH Try.prog 44 [.l [I .i64 0], .l [I .i64 0]] pure σ dst (.mk : Hid K) = OrH ((pure || D.flat (Bo true)) = true ∧ evK (σ.put dst (.d (Bo true))) (.mk : Hid K)) (.mk : Hid (CallH Try.prog 44 [.l [I .i64 0], .l [I .i64 0]] pure σ dst (.mk : Hid K))) := CallH.eq0 (th2_spec ) pure σ dst K
theorem th2_callQ  (pure : Bool) (C : V → Prop) : CallQ Try.prog 44 [.l [I .i64 0], .l [I .i64 0]] pure (.mk : Hid C) = OrH ((pure || D.flat (Bo true)) = true ∧ evK (V.d (Bo true)) (.mk : Hid C)) (.mk : Hid (CallQ Try.prog 44 [.l [I .i64 0], .l [I .i64 0]] pure (.mk : Hid C))) := CallQ.eq0 (th2_spec ) pure C
def dgL (G : List Nat) (k : Nat) : List (Nat × Nat) := (List.range k).map fun i => (i, G.getD i default)
theorem dgL_len (G : List Nat) (k : Nat) : (dgL G k).length = k := by simp [dgL]
theorem dgL_succ (G : List Nat) (k : Nat) : dgL G (k + 1) = dgL G k ++ [(k, G.getD k default)] := by simp [dgL, List.range_succ]
theorem dg_most {n : Nat} {G : List Nat} (h6 : n ≤ 6) (hl : G.length = n) (hd : G.Nodup) (hr : ∀ y ∈ G, y < n) : mchk n n (intL (dgL G n)) = 0 ∧ mostR n n (intL (dgL G n)) = n := by
  have hm : ∀ p ∈ dgL G n, p.1 < n ∧ p.2 < n := fun p hp => by
    obtain ⟨i, hi, rfl⟩ := List.mem_map.1 hp
    have hi := List.mem_range.1 hi
    exact ⟨hi, hr _ (getD_mem (by omega))⟩
  have hc : mchk n n (intL (dgL G n)) = 0 := by
    rw [mchk_iff]
    refine ⟨⟨⟨by omega, by omega⟩, by omega, by omega⟩, by simp [intL, dgL_len]; omega, fun p hp => ?_⟩
    obtain ⟨q, hq, rfl⟩ := List.mem_map.1 hp
    have := hm q hq
    show (0 ≤ (q.1 : Int) ∧ (q.1 : Int) ≤ _) ∧ 0 ≤ (q.2 : Int) ∧ (q.2 : Int) ≤ _
    omega
  refine ⟨hc, ?_⟩
  have h1 := most_mn hc
  rw [natL_int] at h1
  have h2 := (most_le hc).1
  obtain ⟨_, A, B, h3, h4⟩ := h1
  have hM : Mtch (dgL G n) (dgL G n) := by
    have e1 : (dgL G n).map Prod.fst = List.range n := by
      unfold dgL; rw [List.map_map]; exact List.map_id _
    have e2 : (dgL G n).map Prod.snd = G := by
      unfold dgL
      rw [List.map_map]
      refine List.ext_getElem (by simp [hl]) fun i h1 h2 => ?_
      rw [List.getElem_map, List.getElem_range]
      show G.getD i default = _
      rw [List.getD_eq_getElem?_getD, List.getElem?_eq_getElem h2]; rfl
    exact ⟨fun p hp => hp, by rw [e1]; exact List.nodup_range, by rw [e2]; exact hd⟩
  have := hM.weak h3
  rw [dgL_len] at this
  simp at h2
  omega
theorem lTopHalf_spec (L R : List (List Int)) (hL : L.length < 2 ^ 43 ∧ ∀ x ∈ L, x.length < 2 ^ 44) (hR : R.length < 2 ^ 43 ∧ ∀ x ∈ R, x.length < 2 ^ 44) :
    FnD Try.prog 23 [.l (L.map liD), .l (R.map liD)] (Bo true) := by
  have hpre : (L.length < 2 ^ 62 ∧ ∀ x ∈ L, x.length < 2 ^ 62) ∧ R.length < 2 ^ 62 ∧ ∀ x ∈ R, x.length < 2 ^ 62 := ⟨⟨by omega, fun x hx => by have := hL.2 x hx; omega⟩, by omega, fun x hx => by have := hR.2 x hx; omega⟩
  refine FnD.go Try.func23 rfl rfl Try.results23 Try.ntmps23 ?_
  simp (implicitDefEqProofs := false) (dsimp := false) only [↓aw_seq, ↓aw_reg, ↓Qseq_n, ↓ops_nil, ↓ops_cons, ↓eval_tmp, ↓eval_bool, ↓eval_func, ↓put_some, ↓op_move, ↓op_assign, ↓op_call, isD_d, ↓fnK_f, ↓call_H, ↓callK_H, ↓allT_nil, ↓allT_cons, ↓td_d, List.getD_cons_zero, List.getD_cons_succ, List.set_cons_zero, List.set_cons_succ, List.cons_append, List.nil_append, List.append_nil, List.map_cons, List.map_nil, List.length_cons, List.length_nil, List.all_cons, List.all_nil, Bool.and_self, Nat.reduceAdd, Nat.reduceSub, Nat.reduceMul, Nat.zero_add, List.replicate, evK_go, reduceIte, Nat.reduceEqDiff, Nat.reduceLT, and_self, Int.zero_add]
  simp (implicitDefEqProofs := false) (dsimp := false) only [spairs_call, hpre, ↓nthK_H, ↓nthH_zero, ↓nthH_succ, ↓aw_seq, ↓aw_reg, ↓Qseq_n, ↓ops_nil, ↓ops_cons, ↓eval_tmp, ↓eval_int, ↓eval_func, ↓put_some, ↓dK_d, ↓tK_t, ↓op_move, ↓op_assign, ↓op_extract, ↓op_call, isD_d, ↓fnK_f, ↓call_H, ↓callK_H, ↓allT_nil, ↓allT_cons, ↓allD_nil, ↓allD_cons, ↓td_d, ↓cells_c, ↓cells_l, ↓one_i, ↓one_l, ↓bs_, ↓op_bs, ↓bsL_f, ↓stored_mk, ↓sl_nil, ↓sl_cons, ↓sT_move, ↓sT_assign, ↓sT_extract, ↓sT_bs, ↓sT_call, ↓vsz_int, ↓vsz_slice, ↓inO_1, ↓fm_nil, ↓fm_cons, ↓ty3, ↓zb3, ↓ty28, ↓sl28, ↓zb28, ↓sl44, List.getD_cons_zero, List.getD_cons_succ, List.set_cons_zero, List.set_cons_succ, List.append_nil, List.map_cons, List.map_nil, List.length_cons, List.length_nil, List.all_cons, List.all_nil, Bool.true_and, Bool.and_self, Bool.true_or, Bool.or_false, Nat.reduceAdd, Nat.reduceSub, Nat.reduceMul, Nat.zero_add, evK_go, reduceIte, Nat.reduceEqDiff, Nat.reduceLT, and_self, true_and, Int.zero_add]
  refine OrH.l (OrH.l ⟨⟨hpre.1.2, hpre.2.2⟩, ?_⟩)
  simp (implicitDefEqProofs := false) (dsimp := false) only [th1_call, th2_call, eval_nilI, ↓er_neq, ↓cdK_false, ↓cdK_not, ↓gdK_f, ↓gval_mk, ↓gvL_zero, ↓gvL_succ, ↓nthK_H, ↓nthH_zero, ↓nthH_succ, ↓aw_cond, ↓aw_seq, ↓aw_skip, ↓aw_reg, ↓Qseq_n, ↓ops_nil, ↓ops_cons, ↓ops_guard, ↓eval_tmp, ↓eval_int, ↓eval_func, ↓put_some, ↓bK_b, ↓dK_d, ↓tK_t, ↓op_move, ↓op_assign, ↓op_pick, ↓op_bin, ↓op_not, ↓op_extract, ↓op_call, isD_d, ↓fnK_f, ↓call_H, ↓callK_H, ↓allT_nil, ↓allT_cons, ↓allD_nil, ↓allD_cons, ↓td_d, ↓st_tm, ↓cells_c, ↓one_i, ↓bs_, ↓op_bs, ↓bsL_f, ↓stored_mk, ↓sl_nil, ↓sl_cons, ↓sT_move, ↓sT_pick, ↓sT_bin, ↓sT_un, ↓sT_bs, ↓sT_call, ↓vsz_int, ↓inO_1, ↓fm_nil, ↓fm_cons, ↓ty3, ↓zb3, ↓sl28, List.getD_cons_zero, List.getD_cons_succ, List.set_cons_zero, List.set_cons_succ, List.append_nil, List.map_cons, List.map_nil, List.length_cons, List.length_nil, List.all_cons, List.all_nil, Bool.true_and, Bool.and_self, Bool.true_or, Bool.or_false, Nat.reduceAdd, Nat.reduceSub, Nat.reduceMul, Nat.zero_add, evK_go, reduceIte, decide_true, Bool.not_true, Nat.reduceEqDiff, Nat.reduceLT, and_self, true_and, Int.zero_add]
  refine ⟨by decide, by decide, by decide, by decide, ?_⟩
  (repeat refine OrH.l ?_)
  refine ⟨by decide, ?_⟩
  (repeat refine OrH.l ?_)
  refine cdK_dec (fun hc => ?_) (fun hc => ?_)
  rotate_left
  · have e : pairsR L R = [] := if_neg hc
    simp (implicitDefEqProofs := false) (dsimp := false) only [e, ↓aw_seq, ↓aw_ret, ↓aw_reg, ↓Qseq_n, ↓Qseq_r, ↓Qret_r, ↓ops_nil, ↓ops_cons, ↓eval_tmp, ↓eval_int, ↓put_some, ↓lenK_l, ↓binE_i, ↓bi_eql, ↓op_move, ↓op_assign, ↓op_bin, ↓op_len, ↓td_d, ↓ret_1, ↓sl28, List.getD_cons_zero, List.getD_cons_succ, List.set_cons_zero, List.set_cons_succ, List.map_nil, List.length_nil, Nat.reduceAdd, Nat.reduceSub, Nat.reduceMul, evK_go, reduceIte, decide_true, Nat.reduceEqDiff, Nat.reduceLT, Int.cast_ofNat_Int]
  have w := stW hc
  obtain ⟨hi, lenL, len, lt, nd, hE, hB⟩ := w
  have hn6 : ¬ (6 : Int) < (L.length : Int) := by omega
  simp (implicitDefEqProofs := false) (dsimp := false) only [hc, len, hn6, ↓cdK_false, ↓gdK_f, ↓gval_mk, ↓gvL_zero, ↓gvL_succ, ↓aw_cond, ↓aw_seq, ↓aw_block, ↓aw_skip, ↓aw_loop, ↓aw_reg, ↓Qseq_n, ↓ops_nil, ↓ops_cons, ↓ops_guard, ↓eval_tmp, ↓eval_int, ↓eval_nil, ↓put_some, ↓bK_b, ↓lenK_l, ↓binE_i, ↓bi_neq, ↓bi_gtr, ↓op_move, ↓op_assign, ↓op_pick, ↓op_bin, ↓op_len, ↓st_tm, ↓sl28, ↓sl44, List.getD_cons_zero, List.getD_cons_succ, List.set_cons_zero, List.set_cons_succ, List.length_map, Nat.reduceAdd, Nat.reduceSub, Nat.reduceMul, evK_go, reduceIte, decide_true, decide_false, Bool.not_true, Nat.reduceEqDiff, Nat.reduceLT]
  obtain ⟨d1, d2⟩ := dg_most (G := pairsR L R) hi len nd lt
  clear hc hpre hL hR hE hB
  generalize pairsR L R = G at *
  generalize L.length = n at *
  refine loopW (fun i : Nat => { tm := slots 78 [(5, .d (.l (G.map nD))), (9, .d (I .i64 (n : Int))), (10, .o 0 0 i), (11, .d (I .i64 i))], bx := [], rw := [some ⟨2, (dgL G i).map lnN⟩] })
    (fun i => i ≤ n) (fun i => n - i) 0 (by simp) ?_ ?_
  · refine Wkn.of [] [none] ?_
    simp (implicitDefEqProofs := false) (dsimp := false) only [dgL, List.range_zero, List.map_nil, ↓row_xs, List.set_cons_zero, List.set_cons_succ, List.map_nil, Bool.and_self, Nat.reduceAdd, Nat.reduceSub, Nat.reduceMul, List.replicate, evK_go, reduceIte, Nat.reduceEqDiff, Nat.reduceLT, and_self, List.foldl_cons, List.foldl_nil, Int.cast_ofNat_Int, slots, wkL_nil, wkL_cons, wkB_nil, wkR_nil, wkR_new, wkV_j, wkV_d, nlK_nl, wkV_o, frz_d, oK_zn, reduceCtorEq]
  · intro i hin
    have hdl := dgL_len G i
    have hds := dgL_succ G i
    simp (implicitDefEqProofs := false) (dsimp := false) only [slots, ↓aw_cond, ↓aw_seq, ↓aw_reg, ↓Qseq_n, ↓ops_nil, ↓ops_cons, ↓eval_tmp, ↓put_some, ↓bK_b, ↓binE_i, ↓bi_lss, ↓op_move, ↓op_bin, List.getD_cons_zero, List.getD_cons_succ, List.set_cons_zero, List.set_cons_succ, Nat.reduceAdd, Nat.reduceSub, Nat.reduceMul, List.replicate, evK_go, reduceIte, Nat.reduceEqDiff, Nat.reduceLT, List.foldl_cons, List.foldl_nil, Int.ofNat_lt]
    refine cdK_dec (fun h1 => ?_) (fun h1 => ?_)
    · have hiG : i < G.length := by omega
      simp (implicitDefEqProofs := false) (dsimp := false) only [hiG, nD, ↓optK_some, ↓rwK_mk_, ↓atK_H, ↓atH_map, ↓aw_seq, ↓aw_block, ↓aw_skip, ↓aw_reg, ↓Qseq_n, ↓Qblk_n, ↓ops_nil, ↓ops_cons, ↓eval_tmp, ↓eval_int, ↓put_some, ↓iK_i, ↓dK_d, ↓binE_i, ↓bi_add, ↓in_i64, ↓ldK_q, ↓iaK_l, ↓op_move, ↓op_assign, ↓op_load, ↓op_bin, ↓op_ia, ↓op_build, ↓op_append, ↓allD_nil, ↓allD_cons, ↓app_mk, ↓row_sz, ↓row_xs, kill_d, kill_j, kill_o, ↓cells_c, ↓cells_s, ↓one_i, ↓ap_, ↓ap_o, ↓src_l, ↓bs_, ↓op_bs, ↓bsL_f, ↓stored_mk, ↓sl_nil, ↓sl_cons, ↓sT_move, ↓sT_assign, ↓sT_load, ↓sT_ia, ↓sT_build, ↓sT_bs, ↓sT_call, ↓vsz_agg, ↓inO_1, ↓fm_nil, ↓fm_cons, ↓hd_cons, ↓ty3, ↓sl22, ↓sl28, ↓ty35, ↓zb35, ↓bd35, List.getD_cons_zero, List.getD_cons_succ, List.set_cons_zero, List.set_cons_succ, List.cons_append, List.nil_append, List.map_cons, List.map_nil, List.length_cons, List.length_nil, List.length_map, List.all_cons, List.all_nil, Bool.true_and, Bool.and_self, Bool.or_false, Nat.reduceAdd, Nat.reduceSub, Nat.reduceMul, Nat.zero_add, Int.toNat_natCast, evK_go, reduceIte, Nat.reduceEqDiff, Nat.reduceLT, and_self, true_and, Int.zero_add, List.drop_zero, Int.natCast_nonneg]
      refine ⟨⟨rfl, by decide⟩, rfl, ⟨fun _ => trivial, by omega, by omega, by omega⟩, by omega, i + 1, by omega, by omega, ?_⟩
      refine Wkn.of [] [some 0] ?_
      simp (implicitDefEqProofs := false) (dsimp := false) only [hds, List.map_append, lnN, List.getD_cons_zero, List.set_cons_zero, List.set_cons_succ, List.map_cons, List.map_nil, Bool.and_self, Nat.reduceAdd, Nat.reduceSub, Nat.reduceMul, List.replicate, evK_go, reduceIte, Nat.reduceEqDiff, Nat.reduceLT, and_self, List.foldl_cons, List.foldl_nil, Int.cast_ofNat_Int, Int.natCast_add, slots, wkL_nil, wkL_cons, wkB_nil, wkR_nil, wkR_some, wkV_j, wkV_d, wkV_o, frz_d, oK_zs, reduceCtorEq]
    · obtain rfl : i = n := by omega
      have e2 : List.take i ((dgL G i).map lnN) = (intL (dgL G i)).map lnD := by
        rw [← lnN_int]
        exact List.take_of_length_le (by simp [dgL_len])
      have hi62 : (intL (dgL G i)).length < 2 ^ 62 := by simp [intL, dgL_len]; omega
      simp (implicitDefEqProofs := false) (dsimp := false) only [e2, most_call, hi62, d1, d2, t_flat, eval_nilI, ↓er_eql, ↓cdK_true, ↓gdK_t, ↓gval_mk, ↓gvL_zero, ↓gvL_succ, ↓optK_some, ↓rwK_mk_, ↓nthK_H, ↓nthH_zero, ↓nthH_succ, ↓aw_seq, ↓aw_exit, ↓aw_ret, ↓aw_reg, ↓Qseq_n, ↓Qseq_x, ↓Qblk_x, ↓Qret_r, ↓ops_nil, ↓ops_cons, ↓ops_guard, ↓eval_tmp, ↓eval_func, ↓put_some, ↓bK_b, ↓tK_t, ↓binE_i, ↓bi_eql, ↓op_move, ↓op_assign, ↓op_pick, ↓op_bin, ↓op_extract, ↓op_call, ↓orH_T, isD_d, isD_o, ↓fnK_f, ↓call_H, ↓callK_H, ↓allT_nil, ↓allT_cons, ↓td_d, ↓td_o, ↓ret_1, ↓st_tm, ↓row_xs, List.getD_cons_zero, List.getD_cons_succ, List.set_cons_zero, List.set_cons_succ, List.append_nil, List.all_cons, List.all_nil, Bool.and_true, Bool.and_self, Bool.and_false, Bool.or_true, Nat.reduceAdd, Nat.reduceSub, Nat.reduceMul, evK_go, reduceIte, decide_true, decide_false, Nat.reduceEqDiff, Nat.reduceLT, and_self, and_true, Nat.lt_irrefl, List.drop_zero]
end Go.Proofs

namespace Go.Proofs
set_option maxRecDepth 100000
theorem cutNo : ("cut".toList == "gc".toList || "cut".toList == "spec".toList) = false := by kernel_rfl
theorem cutNo2 : ("cut".toList == "carried".toList) = false := by kernel_rfl
theorem cutStrip (T : List (List Char)) : stripLifts liftWords ("cut".toList :: T) = ([], "cut".toList :: T) := by kernel_rfl
theorem make_of {P : Program} {T : List (List Char)} (h : behindMainWord (wordsSigns P.initOrder.toList) = "cut".toList :: T) : P.make = some .cut := by
  unfold Program.make
  rw [h]
  simp (implicitDefEqProofs := false) (dsimp := false) only [cutNo, beq_self_eq_true, Bool.true_or, Bool.false_eq_true, if_false, if_true]
theorem enter_of {P : Program} {T : List (List Char)} (h : behindMainWord (wordsSigns P.initOrder.toList) = "cut".toList :: T) (h1 : P.laysLater = false) (h2 : P.bearsReflect = false) (h3 : P.doorRows = []) : P.mayEnter = true := by
  unfold Program.mayEnter
  rw [h]
  simp (implicitDefEqProofs := false) (dsimp := false) only [cutStrip, cutNo, cutNo2, h1, h2, Program.doorFits, h3, List.head?_cons, beq_self_eq_true, Bool.not_false, Bool.or_true, Bool.and_true, Bool.true_and]
  rfl
theorem final_of {P : Program} {T : List (List Char)} (h : behindMainWord (wordsSigns P.initOrder.toList) = "cut".toList :: T) : P.liftsFinal = false := by
  unfold Program.liftsFinal Program.headLifts
  rw [h]
  simp (implicitDefEqProofs := false) (dsimp := false) only [cutStrip]
  kernel_rfl
theorem cutWord : behindMainWord (wordsSigns Try.prog.initOrder.toList) = "cut".toList :: (behindMainWord (wordsSigns Try.prog.initOrder.toList)).tail := by
  have h : Try.prog.initOrder.toList = _ := String.toList_ofList
  rw [h]
  show (_ : List (List Char)) = _
  kernel_rfl
theorem pLater : Try.prog.laysLater = false := by
  unfold Program.laysLater
  rw [← Array.any_toList]
  kernel_rfl
theorem pReflect : Try.prog.bearsReflect = false := by kernel_rfl
theorem pDoor : Try.prog.doorRows = [] := by kernel_rfl
theorem pMake : Try.prog.make = some .cut := make_of cutWord
theorem pEnter : Try.prog.mayEnter = true := enter_of cutWord pLater pReflect pDoor
theorem pFinal : Try.prog.liftsFinal = false := final_of cutWord
theorem pLaid : laidOutB Try.prog = true := by kernel_rfl
theorem pRowed : mapsRowed Try.prog = true := by kernel_rfl
theorem pStops : (Try.prog.stops == []) = true := by kernel_rfl
theorem pKnobs : (Try.prog.stopKnobs == []) = true := by kernel_rfl
theorem pHeard : Try.prog.stopsHeard = true := by kernel_rfl
theorem pOwn : ownKnob Try.prog.godebug = none := by kernel_rfl
theorem andB {a b : Bool} (ha : a = true) (hb : b = true) : (a && b) = true := by rw [ha, hb]; rfl
end Go.Proofs
