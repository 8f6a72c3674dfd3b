/- Part M 1 of what the proof of TopHalves stands on: plain facts of graphs and sets, with no program in sight. -/
import Derived.Test.YtblhpmhfhpmifabAw2
set_option linter.unusedVariables false
set_option linter.unusedSimpArgs false
namespace Go.Proofs
open Go.Aw
set_option linter.unusedSimpArgs false
def pts (s : Nat) : List Nat := (List.range 64).filter fun i => s.testBit i
def ptsI (s : Nat) : List Int := (pts s).map Int.ofNat

theorem pts_len (s : Nat) : (pts s).length ≤ 64 := by
  have := List.length_filter_le (fun i => s.testBit i) (List.range 64)
  simpa [pts] using this
theorem ptsI_len (s : Nat) : (ptsI s).length ≤ 64 := by simpa [ptsI] using pts_len s

def outF (s : List Nat) (p : Nat × Nat) : List Nat := s.set p.1 (s.getD p.1 default ||| 2 ^ p.2)
def outS (n : Nat) (l : List (Nat × Nat)) : List Nat := l.foldl outF (List.replicate n 0)
theorem outS_snoc (n : Nat) (l : List (Nat × Nat)) (p : Nat × Nat) : outS n (l ++ [p]) = outF (outS n l) p := by simp [outS]
theorem outS_len (n : Nat) (l : List (Nat × Nat)) : (outS n l).length = n := by
  unfold outS
  generalize h : List.replicate n 0 = s
  have hs : s.length = n := by rw [← h]; simp
  clear h
  induction l generalizing s with
  | nil => exact hs
  | cons p l ih => exact ih _ (by simp [outF, hs])
theorem outS_lt (n : Nat) (l : List (Nat × Nat)) (hl : ∀ p ∈ l, p.2 < 64) : ∀ x ∈ outS n l, x < 2 ^ 64 := by
  unfold outS
  generalize h : List.replicate n 0 = s
  have hs : ∀ x ∈ s, x < 2 ^ 64 := by rw [← h]; intro x hx; obtain ⟨_, rfl⟩ := List.mem_replicate.1 hx; decide
  clear h
  induction l generalizing s with
  | nil => exact hs
  | cons p l ih =>
    refine ih (fun q hq => hl q (by simp [hq])) _ (fun x hx => ?_)
    rcases List.mem_or_eq_of_mem_set hx with h | rfl
    · exact hs x h
    · refine Nat.or_lt_two_pow ?_ (Nat.pow_lt_pow_right (by omega) (hl p (by simp)))
      rw [List.getD_eq_getElem?_getD]
      cases hx : s[p.1]? with
      | none => decide
      | some y => exact hs y (List.mem_of_getElem? hx)

theorem prefix_map {pre : List Int} {x : Int} {l : List Nat} (h : pre ++ [x] <+: l.map Int.ofNat) : ∃ (p : List Nat) (c : Nat), pre = p.map Int.ofNat ∧ x = (c : Int) ∧ p ++ [c] <+: l := by
  obtain ⟨t, ht⟩ := h
  have hl := congrArg List.length ht
  simp at hl
  refine ⟨l.take pre.length, l.getD pre.length default, ?_, ?_, ?_⟩
  · have := congrArg (List.take pre.length) ht
    rw [← List.map_take] at this
    rw [← this]; simp
  · have := congrArg (fun l => l[pre.length]?) ht
    have hlt : pre.length < l.length := by omega
    simp [hlt] at this
    rw [List.getD_eq_getElem?_getD, List.getElem?_eq_getElem hlt]
    exact this
  · rw [← take_succ_getD (by omega)]
    exact List.take_prefix _ _
theorem ofNat_inj : ∀ {a b : List Nat}, a.map Int.ofNat = b.map Int.ofNat → a = b := by
  intro a
  induction a with
  | nil => intro b h; cases b with
    | nil => rfl
    | cons y b => simp at h
  | cons x a ih => intro b h; cases b with
    | nil => simp at h
    | cons y b =>
      simp only [List.map_cons, List.cons.injEq] at h
      rw [ih h.2, Int.ofNat_inj.1 h.1]
theorem pts_mem (s c : Nat) : c ∈ pts s ↔ c < 64 ∧ s.testBit c = true := by simp [pts]

theorem low_lt {w n c : Nat} (h : w < 2 ^ n) (hc : w.testBit c = true) : c < n := by
  rcases Nat.lt_or_ge c n with h' | h'
  · exact h'
  · rw [Nat.testBit_lt_two_pow (Nat.lt_of_lt_of_le h (Nat.pow_le_pow_right (by omega) h'))] at hc; cases hc
theorem cnt_add (s d : Nat) (h : ∀ j, d.testBit j = true → s.testBit j = false) : cnt (addAll s (pts d)) = cnt s + (pts d).length := by
  have key : ∀ L : List Nat, (∀ j ∈ L, j < 64) → (L.countP fun j => (addAll s (pts d)).testBit j) = (L.countP fun j => s.testBit j) + (L.filter fun j => d.testBit j).length := by
    intro L
    induction L with
    | nil => intro _; rfl
    | cons j L ih =>
      intro hj
      rw [List.countP_cons, List.countP_cons, ih (fun x hx => hj x (by simp [hx])), List.filter_cons]
      have hb : (addAll s (pts d)).testBit j = (s.testBit j || d.testBit j) := by
        rw [Bool.eq_iff_iff, addAll_bit, pts_mem, Bool.or_eq_true]
        have := hj j (by simp)
        constructor
        · rintro (h | ⟨_, h⟩)
          · exact .inl h
          · exact .inr h
        · rintro (h | h)
          · exact .inl h
          · exact .inr ⟨this, h⟩
      have := h j
      cases h1 : s.testBit j <;> cases h2 : d.testBit j <;> simp [hb, h1, h2] at this ⊢ <;> omega
  exact key (List.range 64) (fun j hj => by simpa using hj)

/-! Plain facts of graphs. -/
theorem set_getD {α : Type} [Inhabited α] (s : List α) (i j : Nat) (x : α) : (s.set i x).getD j default = if i = j ∧ j < s.length then x else s.getD j default := by
  rw [List.getD_eq_getElem?_getD, List.getD_eq_getElem?_getD, List.getElem?_set]
  by_cases h : i = j
  · subst h
    by_cases h2 : i < s.length
    · simp [h2]
    · simp [h2]
  · simp [h]
theorem two_pow_bit (i j : Nat) : (2 ^ i).testBit j = true ↔ i = j := by
  by_cases h : i = j
  · subst h; simp [Nat.testBit_two_pow_self]
  · simp [Nat.testBit_two_pow_of_ne h, h]
theorem outS_bit (n : Nat) (l : List (Nat × Nat)) (a b : Nat) : ((outS n l).getD a default).testBit b = true ↔ a < n ∧ (a, b) ∈ l := by
  have : ∀ s : List Nat, s.length = n → (((l.foldl outF s).getD a default).testBit b = true ↔ (s.getD a default).testBit b = true ∨ (a < n ∧ (a, b) ∈ l)) := by
    induction l with
    | nil => intro s _; simp
    | cons p l ih =>
      intro s hs
      rw [List.foldl_cons, ih _ (by simp [outF, hs])]
      unfold outF
      rw [set_getD, hs]
      by_cases h : p.1 = a ∧ a < n
      · rw [if_pos h]
        obtain ⟨rfl, h2⟩ := h
        rw [Nat.testBit_or, Bool.or_eq_true, two_pow_bit, List.mem_cons]
        constructor
        · rintro ((h | rfl) | h)
          · exact .inl h
          · exact .inr ⟨h2, .inl rfl⟩
          · exact .inr ⟨h.1, .inr h.2⟩
        · rintro (h | ⟨_, h | h⟩)
          · exact .inl (.inl h)
          · exact .inl (.inr (by rw [← h]))
          · exact .inr ⟨h2, h⟩
      · rw [if_neg h, List.mem_cons]
        constructor
        · rintro (h | h)
          · exact .inl h
          · exact .inr ⟨h.1, .inr h.2⟩
        · rintro (h' | ⟨h1, h' | h'⟩)
          · exact .inl h'
          · exact absurd ⟨by rw [← h'], h1⟩ h
          · exact .inr ⟨h1, h'⟩
  have h0 := this (List.replicate n 0) (by simp)
  rw [outS, h0]
  have : ((List.replicate n 0).getD a default).testBit b = false := by
    rw [List.getD_eq_getElem?_getD, List.getElem?_replicate]
    split <;> simp
  rw [this]; simp
/-- Ways. -/
inductive Path (l : List (Nat × Nat)) (a : Nat) : Nat → Prop
  | refl : Path l a a
  | step {b c : Nat} (h : Path l a b) (h1 : (b, c) ∈ l) : Path l a c
theorem Path.trans {l : List (Nat × Nat)} {a b c : Nat} (h : Path l a b) (k : Path l b c) : Path l a c := by
  induction k with
  | refl => exact h
  | step _ h1 ih => exact .step ih h1
theorem Path.one {l : List (Nat × Nat)} {a b : Nat} (h : (a, b) ∈ l) : Path l a b := .step .refl h
theorem Path.mono {l l' : List (Nat × Nat)} (hl : ∀ p ∈ l, p ∈ l') {a b : Nat} (h : Path l a b) : Path l' a b := by
  induction h with
  | refl => exact .refl
  | step _ h1 ih => exact .step ih (hl _ h1)
def flip (p : Nat × Nat) : Nat × Nat := (p.2, p.1)
theorem flip_mem {l : List (Nat × Nat)} {a b : Nat} : (a, b) ∈ l.map flip ↔ (b, a) ∈ l := by
  simp only [List.mem_map, flip]
  constructor
  · rintro ⟨⟨x, y⟩, h, e⟩
    cases e
    exact h
  · intro h; exact ⟨_, h, rfl⟩
theorem Path.flip {l : List (Nat × Nat)} {a b : Nat} (h : Path l a b) : Path (l.map flip) b a := by
  induction h with
  | refl => exact .refl
  | step _ h1 ih => exact (Path.one (flip_mem.2 h1)).trans ih
/-- Lines between n points. -/
def Good (n : Nat) (l : List (Nat × Nat)) : Prop := ∀ p ∈ l, p.1 < n ∧ p.2 < n
theorem Good.flip {n : Nat} {l : List (Nat × Nat)} (h : Good n l) : Good n (l.map flip) := by
  intro p hp
  obtain ⟨q, hq, rfl⟩ := List.mem_map.1 hp
  exact ⟨(h q hq).2, (h q hq).1⟩
theorem Path.lt {n : Nat} {l : List (Nat × Nat)} (hg : Good n l) {a b : Nat} (ha : a < n) (h : Path l a b) : b < n := by
  cases h with
  | refl => exact ha
  | step _ h1 => exact (hg _ h1).2
theorem below_bit (n j : Nat) : (2 ^ n - 1).testBit j = true ↔ j < n := by
  rw [Nat.testBit_two_pow_sub_one]; simp
theorem rch_path {n : Nat} {l : List (Nat × Nat)} (hg : Good n l) {a b : Nat} (ha : a < n) : Rch (outS n l) (2 ^ n - 1) a b ↔ Path l a b := by
  constructor
  · intro h
    induction h with
    | refl => exact .refl
    | step _ h1 _ ih => exact .step ih ((outS_bit _ _ _ _).1 h1).2
  · intro h
    induction h with
    | refl => exact .refl
    | step h h1 ih => exact .step ih ((outS_bit _ _ _ _).2 ⟨h.lt hg ha, h1⟩) ((below_bit _ _).2 (hg _ h1).2)
theorem outS_lt' {n : Nat} {l : List (Nat × Nat)} (hn : n ≤ 64) (hg : Good n l) : ∀ x ∈ outS n l, x < 2 ^ 64 := outS_lt n l fun p hp => Nat.lt_of_lt_of_le (hg p hp).2 hn
/-- The points to which ways go. -/
def rs (n : Nat) (l : List (Nat × Nat)) (a : Nat) : Nat := reach (outS n l) (2 ^ n - 1) a
theorem rs_bit {n : Nat} {l : List (Nat × Nat)} (hn : n ≤ 64) (hg : Good n l) {a : Nat} (ha : a < n) (b : Nat) : (rs n l a).testBit b = true ↔ Path l a b := by
  rw [rs, reach_bit (outS_lt' hn hg) (by omega), rch_path hg ha]
theorem rs_lt {n : Nat} {l : List (Nat × Nat)} (hn : n ≤ 64) (hg : Good n l) {a : Nat} (ha : a < n) : rs n l a < 2 ^ 64 := reach_lt (outS_lt' hn hg) (by omega)
/-- The least point. -/
def low (s : Nat) : Nat := (pts s).getD 0 default
theorem low_spec {s i : Nat} (h : s.testBit i = true) (hi : i < 64) : pts s ≠ [] ∧ s.testBit (low s) = true ∧ low s ≤ i := by
  have hm : i ∈ pts s := (pts_mem s i).2 ⟨hi, h⟩
  have hne : pts s ≠ [] := List.ne_nil_of_mem hm
  refine ⟨hne, ?_⟩
  have hs : (pts s).Pairwise (· < ·) := List.Pairwise.filter _ List.pairwise_lt_range
  unfold low
  cases hp : pts s with
  | nil => exact absurd hp hne
  | cons x t =>
    rw [hp] at hm hs
    have hx : x ∈ pts s := by rw [hp]; simp
    refine ⟨((pts_mem s x).1 hx).2, ?_⟩
    rcases List.mem_cons.1 hm with rfl | hm
    · exact Nat.le_refl _
    · exact Nat.le_of_lt ((List.pairwise_cons.1 hs).1 i hm)
end Go.Proofs

namespace Go.Proofs
open Go.Aw
/-- Ways of a line, or several. -/
def Path1 (l : List (Nat × Nat)) (a b : Nat) : Prop := ∃ c, (a, c) ∈ l ∧ Path l c b
theorem Path1.path {l : List (Nat × Nat)} {a b : Nat} (h : Path1 l a b) : Path l a b := by
  obtain ⟨c, h1, h2⟩ := h
  exact (Path.one h1).trans h2
theorem Path1.trans {l : List (Nat × Nat)} {a b c : Nat} (h : Path1 l a b) (k : Path l b c) : Path1 l a c := by
  obtain ⟨d, h1, h2⟩ := h
  exact ⟨d, h1, h2.trans k⟩
theorem Path1.mono {l l' : List (Nat × Nat)} (hl : ∀ p ∈ l, p ∈ l') {a b : Nat} (h : Path1 l a b) : Path1 l' a b := by
  obtain ⟨c, h1, h2⟩ := h
  exact ⟨c, hl _ h1, h2.mono hl⟩
theorem Path1.last {l : List (Nat × Nat)} {a b : Nat} (h : Path1 l a b) : ∃ c, Path l a c ∧ (c, b) ∈ l := by
  obtain ⟨c, h1, h2⟩ := h
  cases h2 with
  | refl => exact ⟨a, .refl, h1⟩
  | step h2 h3 => exact ⟨_, (Path.one h1).trans h2, h3⟩
theorem Path1.lt {n : Nat} {l : List (Nat × Nat)} (hg : Good n l) {a b : Nat} (h : Path1 l a b) : a < n ∧ b < n := by
  obtain ⟨c, h1, h2⟩ := h
  exact ⟨(hg _ h1).1, h2.lt hg (hg _ h1).2⟩
def warI (k : Nat) (s : List Nat) (i : Nat) : List Nat := if (s.getD i default).testBit k then s.set i (s.getD i default ||| s.getD k default) else s
def warK (n : Nat) (s : List Nat) (k : Nat) : List Nat := (List.range n).foldl (warI k) s
def warS (n : Nat) (s : List Nat) (m : Nat) : List Nat := (List.range m).foldl (warK n) s
def war (n : Nat) (l : List (Nat × Nat)) : List Nat := warS n (outS n l) n
theorem range_foldl {α : Type} (f : α → Nat → α) (a : α) (n : Nat) : (List.range (n + 1)).foldl f a = f ((List.range n).foldl f a) n := by rw [List.range_succ, List.foldl_append]; rfl
def wOr (s : List Nat) (k i : Nat) : Nat := if (s.getD i default).testBit k then s.getD i default ||| s.getD k default else s.getD i default
/-- Warshall's relation. -/
def WR (l : List (Nat × Nat)) : Nat → Nat → Nat → Prop
  | 0, i, j => (i, j) ∈ l
  | k + 1, i, j => WR l k i j ∨ (WR l k i k ∧ WR l k k j)
theorem WR.sound {l : List (Nat × Nat)} {k i j : Nat} (h : WR l k i j) : Path1 l i j := by
  induction k generalizing i j with
  | zero => exact ⟨j, h, .refl⟩
  | succ k ih =>
    rcases h with h | ⟨h1, h2⟩
    · exact ih h
    · exact (ih h1).trans (ih h2).path
theorem WR.tr {l : List (Nat × Nat)} {k : Nat} : ∀ {i m j : Nat}, m < k → WR l k i m → WR l k m j → WR l k i j := by
  induction k with
  | zero => intro i m j h; omega
  | succ k ih =>
    intro i m j hm h1 h2
    by_cases hk : m < k
    · rcases h1 with h1 | ⟨h1, h1'⟩ <;> rcases h2 with h2 | ⟨h2, h2'⟩
      · exact .inl (ih hk h1 h2)
      · exact .inr ⟨ih hk h1 h2, h2'⟩
      · exact .inr ⟨h1, ih hk h1' h2⟩
      · exact .inr ⟨h1, h2'⟩
    · obtain rfl : m = k := by omega
      have a : WR l m i m := h1.elim id (fun h => h.1)
      have b : WR l m m j := h2.elim id (fun h => h.2)
      exact .inr ⟨a, b⟩
theorem WR.base {l : List (Nat × Nat)} {i j : Nat} (h : (i, j) ∈ l) : ∀ k, WR l k i j
  | 0 => h
  | k + 1 => .inl (WR.base h k)
theorem WR.all {n : Nat} {l : List (Nat × Nat)} (hg : Good n l) {i j : Nat} : WR l n i j ↔ Path1 l i j := by
  refine ⟨WR.sound, ?_⟩
  rintro ⟨c, h1, h2⟩
  have : WR l n i j ∧ j < n := by
    induction h2 with
    | refl => exact ⟨.base h1 n, (hg _ h1).2⟩
    | step _ h3 ih => exact ⟨.tr ih.2 ih.1 (.base h3 n), (hg _ h3).2⟩
  exact this.1
end Go.Proofs

namespace Go.Proofs
open Go.Aw
/-- The least point there and back. -/
def part (n : Nat) (l : List (Nat × Nat)) (i : Nat) : Nat := low (rs n l i &&& rs n (l.map flip) i)
def strongP (n : Nat) (l : List (Nat × Nat)) : List Nat := (List.range n).map (part n l)
def Mut (l : List (Nat × Nat)) (a b : Nat) : Prop := Path l a b ∧ Path l b a
theorem Mut.refl (l : List (Nat × Nat)) (a : Nat) : Mut l a a := ⟨.refl, .refl⟩
theorem Mut.symm {l : List (Nat × Nat)} {a b : Nat} (h : Mut l a b) : Mut l b a := ⟨h.2, h.1⟩
theorem Mut.trans {l : List (Nat × Nat)} {a b c : Nat} (h : Mut l a b) (k : Mut l b c) : Mut l a c := ⟨h.1.trans k.1, k.2.trans h.2⟩
section
variable {n : Nat} {l : List (Nat × Nat)} (hn : n ≤ 64) (hg : Good n l)
include hn hg
end
theorem Path.congr {l l' : List (Nat × Nat)} (h : ∀ p, p ∈ l ↔ p ∈ l') {a b : Nat} : Path l a b ↔ Path l' a b := ⟨Path.mono fun p => (h p).1, Path.mono fun p => (h p).2⟩
/-- Lines from the last one on, each the other way. -/
def backL (l : List (Nat × Nat)) : List (Nat × Nat) := l.reverse.map flip
end Go.Proofs

namespace Go.Proofs
open Go.Aw
/-- All that some points have. -/
def orL (next : List Nat) (L : List Nat) : Nat := L.foldl (fun u b => u ||| next.getD b default) 0
theorem orL_snoc (next L : List Nat) (b : Nat) : orL next (L ++ [b]) = orL next L ||| next.getD b default := by simp [orL]
theorem orL_bit (next L : List Nat) (j : Nat) : (orL next L).testBit j = true ↔ ∃ b ∈ L, (next.getD b default).testBit j = true := by
  unfold orL
  have : ∀ u : Nat, (L.foldl (fun u b => u ||| next.getD b default) u).testBit j = true ↔ u.testBit j = true ∨ ∃ b ∈ L, (next.getD b default).testBit j = true := by
    induction L with
    | nil => intro u; simp
    | cons b L ih =>
      intro u
      rw [List.foldl_cons, ih, Nat.testBit_or, Bool.or_eq_true]
      constructor
      · rintro ((h | h) | ⟨c, h1, h2⟩)
        · exact .inl h
        · exact .inr ⟨b, by simp, h⟩
        · exact .inr ⟨c, by simp [h1], h2⟩
      · rintro (h | ⟨c, h1, h2⟩)
        · exact .inl (.inl h)
        · rcases List.mem_cons.1 h1 with rfl | h1
          · exact .inl (.inr h2)
          · exact .inr ⟨c, h1, h2⟩
  rw [this]
  simp
theorem orL_lt {next : List Nat} (hn : ∀ x ∈ next, x < 2 ^ 64) (L : List Nat) : orL next L < 2 ^ 64 := by
  apply Nat.lt_pow_two_of_testBit
  intro i hi
  rw [← Bool.not_eq_true, orL_bit]
  rintro ⟨b, _, h⟩
  have : next.getD b default < 2 ^ 64 := by
    rw [List.getD_eq_getElem?_getD]
    cases hx : next[b]? with
    | none => decide
    | some y => exact hn y (List.mem_of_getElem? hx)
  rw [Nat.testBit_lt_two_pow (Nat.lt_of_lt_of_le this (Nat.pow_le_pow_right (by omega) hi))] at h
  cases h
/-- Those that can be next. -/
def freeS (next : List Nat) (left : Nat) : Nat := dif left (orL next (pts left))
def topoGo (next : List Nat) : Nat → Nat → List Nat → Option (List Nat)
  | 0, _, acc => some acc
  | m + 1, left, acc => if left = 0 then some acc else if pts (freeS next left) = [] then none else topoGo next m (dif left (2 ^ low (freeS next left))) (acc ++ [low (freeS next left)])
/-- The order of the points. -/
def topoO (n : Nat) (l : List (Nat × Nat)) : Option (List Nat) := topoGo (outS n l) n (2 ^ n - 1) []
/-- What holds of an order that is begun. -/
structure TI (n : Nat) (l : List (Nat × Nat)) (left : Nat) (acc : List Nat) : Prop where
  lt : ∀ i, left.testBit i = true → i < n
  all : ∀ i, i < n → (left.testBit i = true ∨ i ∈ acc)
  out : ∀ i ∈ acc, i < n ∧ left.testBit i = false
  nodup : acc.Nodup
  fwd : ∀ (a b : Nat), (a, b) ∈ l → ∀ (s t : List Nat), acc = s ++ b :: t → a ∈ s
theorem free_bit {n : Nat} {l : List (Nat × Nat)} {left : Nat} (hn : n ≤ 64) (hl : ∀ i, left.testBit i = true → i < n) (j : Nat) : (freeS (outS n l) left).testBit j = true ↔ left.testBit j = true ∧ ∀ a, left.testBit a = true → (a, j) ∉ l := by
  unfold freeS
  rw [dif_bit, Bool.and_eq_true, Bool.not_eq_true', ← Bool.not_eq_true, orL_bit]
  refine and_congr_right fun hj => ?_
  constructor
  · intro h a ha hm
    exact h ⟨a, (pts_mem _ _).2 ⟨by have := hl a ha; omega, ha⟩, (outS_bit _ _ _ _).2 ⟨hl a ha, hm⟩⟩
  · rintro h ⟨a, ha, hm⟩
    exact h a ((pts_mem _ _).1 ha).2 ((outS_bit _ _ _ _).1 hm).2
theorem TI.next {n : Nat} {l : List (Nat × Nat)} {left : Nat} {acc : List Nat} (hn : n ≤ 64) (hg : Good n l) (h : TI n l left acc) {j : Nat} (hj : (freeS (outS n l) left).testBit j = true) : TI n l (dif left (2 ^ j)) (acc ++ [j]) := by
  have hf := (free_bit hn h.lt j).1 hj
  have hb : ∀ i, (dif left (2 ^ j)).testBit i = true ↔ left.testBit i = true ∧ ¬ i = j := fun i => by
    rw [dif_bit, Bool.and_eq_true, Bool.not_eq_true', ← Bool.not_eq_true, two_pow_bit]
    exact and_congr_right fun _ => ⟨fun h e => h e.symm, fun h e => h e.symm⟩
  refine ⟨fun i hi => h.lt i ((hb i).1 hi).1, fun i hi => ?_, fun i hi => ?_, ?_, ?_⟩
  · rcases h.all i hi with h1 | h1
    · by_cases e : i = j
      · exact .inr (by simp [e])
      · exact .inl ((hb i).2 ⟨h1, e⟩)
    · exact .inr (by simp [h1])
  · rw [← Bool.not_eq_true, hb]
    rcases List.mem_append.1 hi with h1 | h1
    · obtain ⟨h2, h3⟩ := h.out i h1
      exact ⟨h2, fun h' => by rw [h3] at h'; cases h'.1⟩
    · obtain rfl := List.mem_singleton.1 h1
      exact ⟨h.lt i hf.1, fun h' => h'.2 rfl⟩
  · rw [List.nodup_append]
    refine ⟨h.nodup, by simp, fun a ha b hb e => ?_⟩
    obtain rfl := List.mem_singleton.1 hb
    subst e
    have := (h.out a ha).2
    rw [hf.1] at this; cases this
  · intro a b hab s t e
    rcases List.eq_nil_or_concat t with rfl | ⟨t', x, rfl⟩
    · have e' := congrArg List.reverse e
      simp at e'
      obtain ⟨rfl, rfl⟩ := e'
      rcases h.all a (hg _ hab).1 with h1 | h1
      · exact absurd hab (hf.2 a h1)
      · exact h1
    · have e' : acc ++ [j] = (s ++ b :: t') ++ [x] := by rw [e]; simp
      obtain ⟨e1, _⟩ := List.append_inj' e' rfl
      exact h.fwd a b hab s t' e1
theorem TI.start (n : Nat) (l : List (Nat × Nat)) : TI n l (2 ^ n - 1) [] :=
  ⟨fun i hi => (below_bit n i).1 hi, fun i hi => .inl ((below_bit n i).2 hi), fun i hi => by simp at hi, List.nodup_nil, fun a b _ s t e => by simp at e⟩
theorem pig {α : Type} [BEq α] [LawfulBEq α] : ∀ {L M : List α}, L.Nodup → (∀ x ∈ L, x ∈ M) → L.length ≤ M.length := by
  intro L
  induction L with
  | nil => intro M _ _; simp
  | cons x L ih =>
    intro M hn hs
    obtain ⟨h1, h2⟩ := List.nodup_cons.1 hn
    have hx := hs x (by simp)
    have := ih (M := M.erase x) h2 (fun y hy => (List.mem_erase_of_ne (fun e : y = x => h1 (e ▸ hy))).2 (hs y (by simp [hy])))
    rw [List.length_erase_of_mem hx] at this
    have := List.length_pos_of_mem hx
    simp only [List.length_cons]; omega
section
variable {n : Nat} {l : List (Nat × Nat)} {o : List Nat}
theorem TI.mem (h : TI n l 0 o) {i : Nat} : i ∈ o ↔ i < n := ⟨fun hi => (h.out i hi).1, fun hi => (h.all i hi).resolve_left (by simp)⟩
theorem TI.len (h : TI n l 0 o) : o.length = n := by
  have h1 := pig h.nodup (fun x hx => by simpa using h.mem.1 hx : ∀ x ∈ o, x ∈ List.range n)
  have h2 := pig List.nodup_range (fun x hx => h.mem.2 (by simpa using hx) : ∀ x ∈ List.range n, x ∈ o)
  simp at h1 h2; omega
/-- Each line goes on in the order. -/
theorem TI.idx (h : TI n l 0 o) (hg : Good n l) {a b : Nat} (hab : (a, b) ∈ l) : o.idxOf a < o.idxOf b := by
  have hb : b ∈ o := h.mem.2 (hg _ hab).2
  obtain ⟨s, t, e, hbs⟩ := List.append_of_mem hb |> fun ⟨s, t, e⟩ => (⟨s, t, e, by
    have := h.nodup; rw [e, List.nodup_append] at this
    exact fun hs => this.2.2 b hs b (by simp) rfl⟩ : ∃ s t, o = s ++ b :: t ∧ b ∉ s)
  have ha := h.fwd a b hab s t e
  rw [e, List.idxOf_append, List.idxOf_append, if_pos ha, if_neg hbs]
  have := List.idxOf_lt_length_of_mem ha
  omega
theorem TI.path (h : TI n l 0 o) (hg : Good n l) {a b : Nat} (hab : Path1 l a b) : o.idxOf a < o.idxOf b := by
  obtain ⟨c, h1, h2⟩ := hab
  have := h.idx hg h1
  have : ∀ x, Path l c x → o.idxOf c ≤ o.idxOf x := fun x hx => by
    induction hx with
    | refl => exact Nat.le_refl _
    | step _ h3 ih => have := h.idx hg h3; omega
  have := this b h2; omega
end
end Go.Proofs

namespace Go.Proofs
open Go.Aw
/-- The fewest lines. -/
def fewB (n : Nat) (l : List (Nat × Nat)) (i : Nat) : Nat := dif ((war n l).getD i default) (orL (war n l) (pts ((war n l).getD i default)))
def few (n : Nat) (l : List (Nat × Nat)) : List (Nat × Nat) := (List.range n).flatMap fun i => (pts (fewB n l i)).map fun j => (i, j)
section
variable {n : Nat} {l : List (Nat × Nat)} (hn : n ≤ 64) (hg : Good n l)
include hn hg
end
end Go.Proofs

namespace Go.Proofs
open Go.Aw
/-- Ways that, behind where they begin, keep out of S. -/
inductive Avo (l : List (Nat × Nat)) (S : Nat → Prop) (a : Nat) : Nat → Prop
  | refl : Avo l S a a
  | step {b c : Nat} (h : Avo l S a b) (h1 : (b, c) ∈ l) (h2 : ¬ S c) : Avo l S a c
theorem Avo.path {l : List (Nat × Nat)} {S : Nat → Prop} {a b : Nat} (h : Avo l S a b) : Path l a b := by
  induction h with
  | refl => exact .refl
  | step _ h1 _ ih => exact .step ih h1
theorem Avo.mono {l : List (Nat × Nat)} {S T : Nat → Prop} (hs : ∀ x, T x → S x) {a b : Nat} (h : Avo l S a b) : Avo l T a b := by
  induction h with
  | refl => exact .refl
  | step _ h1 h2 ih => exact .step ih h1 (fun h => h2 (hs _ h))
theorem Avo.trans {l : List (Nat × Nat)} {S : Nat → Prop} {a b c : Nat} (h : Avo l S a b) (k : Avo l S b c) : Avo l S a c := by
  induction k with
  | refl => exact h
  | step _ h1 h2 ih => exact .step ih h1 h2
theorem Avo.last {l : List (Nat × Nat)} {S : Nat → Prop} {a b : Nat} (h : Avo l S a b) : a = b ∨ ¬ S b := by
  cases h with
  | refl => exact .inl rfl
  | step _ _ h2 => exact .inr h2
/-- A way has a last point in S, or keeps out of S. -/
theorem Path.lastIn {l : List (Nat × Nat)} (S : Nat → Prop) {a b : Nat} (h : Path l a b) : Avo l S a b ∨ ∃ x, S x ∧ Path l a x ∧ Avo l S x b := by
  induction h with
  | refl => exact .inl .refl
  | step h1 h2 ih =>
    rename_i b c
    by_cases hc : S c
    · exact .inr ⟨c, hc, .step h1 h2, .refl⟩
    · rcases ih with ih | ⟨x, hx, h3, h4⟩
      · exact .inl (.step ih h2 hc)
      · exact .inr ⟨x, hx, h3, .step h4 h2 hc⟩
theorem avo_rch {n k : Nat} {l : List (Nat × Nat)} (hg : Good n l) {a b : Nat} (ha : a < n) : Rch (outS n l) (dif (2 ^ n - 1) (2 ^ k)) a b ↔ Avo l (fun x => x = k) a b := by
  have hb : ∀ j, (dif (2 ^ n - 1) (2 ^ k)).testBit j = true ↔ j < n ∧ ¬ j = k := fun j => by
    rw [dif_bit]
    have h1 := below_bit n j
    have h2 := two_pow_bit k j
    cases h3 : (2 ^ n - 1).testBit j <;> cases h4 : (2 ^ k).testBit j <;> simp [h3, h4] at h1 h2 ⊢ <;> omega
  constructor
  · intro h
    induction h with
    | refl => exact .refl
    | step _ h1 h2 ih => exact .step ih ((outS_bit _ _ _ _).1 h1).2 ((hb _).1 h2).2
  · intro h
    induction h with
    | refl => exact .refl
    | step h h1 h2 ih => exact .step ih ((outS_bit _ _ _ _).2 ⟨h.path.lt hg ha, h1⟩) ((hb _).2 ⟨(hg _ h1).2, h2⟩)
/-- All ways from one point to i go over k. -/
def Ov (l : List (Nat × Nat)) (f i k : Nat) : Prop := Path l f i ∧ (k = i ∨ k = f ∨ ¬ Avo l (fun x => x = k) f i)
theorem Ov.self {l : List (Nat × Nat)} {f i : Nat} (h : Path l f i) : Ov l f i i := ⟨h, .inl rfl⟩
theorem Ov.first {l : List (Nat × Nat)} {f i : Nat} (h : Path l f i) : Ov l f i f := ⟨h, .inr (.inl rfl)⟩
theorem Ov.reach {l : List (Nat × Nat)} {f i k : Nat} (h : Ov l f i k) : Path l f k := by
  obtain ⟨h1, rfl | rfl | h2⟩ := h
  · exact h1
  · exact .refl
  · rcases h1.lastIn (fun x => x = k) with h3 | ⟨x, rfl, h3, _⟩
    · exact absurd h3 h2
    · exact h3
theorem Ov.at_first {l : List (Nat × Nat)} {f k : Nat} (h : Ov l f f k) : k = f := by
  rcases h.2 with h | h | h
  · exact h
  · exact h
  · exact absurd .refl h
/-- Whom one can't go around on the way there one can't, either. -/
theorem Ov.trans {l : List (Nat × Nat)} {f i x y : Nat} (h : Ov l f i x) (k : Ov l f x y) : Ov l f i y := by
  refine ⟨h.1, ?_⟩
  by_cases hy : y = f
  · exact .inr (.inl hy)
  by_cases hyi : y = i
  · exact .inl hyi
  refine .inr (.inr fun ha => ?_)
  -- a way to i that keeps out of y goes over x
  rcases h.2 with rfl | rfl | hx
  · rcases k.2 with h1 | h1 | h1
    · exact hyi h1
    · exact hy h1
    · exact h1 ha
  · exact hy k.at_first
  · by_cases hxy : y = x
    · subst hxy; exact hx ha
    rcases k.2 with h1 | h1 | h1
    · exact hxy h1
    · exact hy h1
    · -- Avo y from f to i contains x
      have : ∀ j, Avo l (fun z => z = y) f j → Avo l (fun z => z = x) f j ∨ Avo l (fun z => z = y) f x := by
        intro j hj
        induction hj with
        | refl => exact .inl .refl
        | step g1 g2 g3 ih =>
          rename_i b c
          rcases ih with ih | ih
          · by_cases hc : c = x
            · subst hc; exact .inr (.step g1 g2 g3)
            · exact .inl (.step ih g2 hc)
          · exact .inr ih
      rcases this _ ha with h2 | h2
      · exact hx h2
      · exact h1 h2
/-- Of two whom one can't go around one can't go around the one on the way to the other. -/
theorem Ov.chain {l : List (Nat × Nat)} {f i x y : Nat} (hx : Ov l f i x) (hy : Ov l f i y) : Ov l f x y ∨ Ov l f y x := by
  by_cases hxf : x = f
  · subst hxf; exact .inr ⟨hy.reach, .inr (.inl rfl)⟩
  by_cases hyf : y = f
  · subst hyf; exact .inl ⟨hx.reach, .inr (.inl rfl)⟩
  by_cases hxy : x = y
  · subst hxy; exact .inl ⟨hx.reach, .inl rfl⟩
  have key : ∀ {x y : Nat}, Ov l f i x → Ov l f i y → ¬ y = f → ¬ x = y → Avo l (fun z => z = x ∨ z = y) x i → Ov l f x y := by
    intro x y hx hy hyf hxy h
    refine ⟨hx.reach, .inr (.inr fun ha => ?_)⟩
    have h1 : Avo l (fun z => z = y) f i := ha.trans (h.mono fun z hz => .inr hz)
    rcases hy.2 with h2 | h2 | h2
    · subst h2
      rcases h.last with h3 | h3
      · exact hxy h3
      · exact h3 (.inr rfl)
    · exact hyf h2
    · exact h2 h1
  rcases hx.1.lastIn (fun z => z = x ∨ z = y) with h | ⟨z, rfl | rfl, _, h⟩
  · exfalso
    rcases hx.2 with h1 | h1 | h1
    · subst h1
      rcases h.last with h3 | h3
      · exact hxf h3.symm
      · exact h3 (.inl rfl)
    · exact hxf h1
    · exact h1 (h.mono fun z hz => .inl hz)
  · exact .inl (key hx hy hyf hxy h)
  · exact .inr (key hy hx hxf (fun e => hxy e.symm) (h.mono fun w hw => hw.symm))
/-- The lines that keep off a point. -/
def offL (l : List (Nat × Nat)) (k : Nat) : List (Nat × Nat) := l.filter fun p => decide (p.1 ≠ k) && decide (p.2 ≠ k)
end Go.Proofs

namespace Go.Proofs
open Go.Aw
def deepJ (i : Nat) (s : List Nat) (j : Nat) : List Nat := s.set j (max (s.getD j default) (s.getD i default + 1))
def deepI (next : List Nat) (s : List Nat) (i : Nat) : List Nat := (pts (next.getD i default)).foldl (deepJ i) s
def deepS (n : Nat) (l : List (Nat × Nat)) (o : List Nat) : List Nat := o.foldl (deepI (outS n l)) (List.replicate n 0)
/-- How deep each point is. -/
def IsDeep (l : List (Nat × Nat)) (d : Nat → Nat) : Prop := (∀ a b, (a, b) ∈ l → d a + 1 ≤ d b) ∧ ∀ b, d b = 0 ∨ ∃ a, (a, b) ∈ l ∧ d b = d a + 1
/-- Ways of so many lines. -/
inductive PathN (l : List (Nat × Nat)) (a : Nat) : Nat → Nat → Prop
  | refl : PathN l a 0 a
  | step {k b c : Nat} (h : PathN l a k b) (h1 : (b, c) ∈ l) : PathN l a (k + 1) c
theorem PathN.le {l : List (Nat × Nat)} {d : Nat → Nat} (hd : IsDeep l d) {a k b : Nat} (h : PathN l a k b) : d a + k ≤ d b := by
  induction h with
  | refl => exact Nat.le_refl _
  | step _ h1 ih => have := hd.1 _ _ h1; omega
theorem IsDeep.way {l : List (Nat × Nat)} {d : Nat → Nat} (hd : IsDeep l d) : ∀ (k b : Nat), d b = k → ∃ a, PathN l a k b := by
  intro k
  induction k with
  | zero => intro b _; exact ⟨b, .refl⟩
  | succ k ih =>
    intro b hb
    rcases hd.2 b with h | ⟨a, h1, h2⟩
    · omega
    · obtain ⟨c, hc⟩ := ih a (by omega)
      exact ⟨c, .step hc h1⟩
theorem PathN.cons {l : List (Nat × Nat)} {a b c k : Nat} (h1 : (a, b) ∈ l) (h : PathN l b k c) : PathN l a (k + 1) c := by
  induction h with
  | refl => exact .step .refl h1
  | step _ h2 ih => exact .step ih h2
theorem PathN.flip {l : List (Nat × Nat)} {a k b : Nat} (h : PathN l a k b) : PathN (l.map Go.Proofs.flip) b k a := by
  induction h with
  | refl => exact .refl
  | step _ h1 ih => exact .cons (flip_mem.2 h1) ih
theorem PathN.mono {l l' : List (Nat × Nat)} (hl : ∀ p ∈ l, p ∈ l') {a k b : Nat} (h : PathN l a k b) : PathN l' a k b := by
  induction h with
  | refl => exact .refl
  | step _ h1 ih => exact .step ih (hl _ h1)
theorem PathN.start {n : Nat} {l : List (Nat × Nat)} (hg : Good n l) {a k b : Nat} (h : PathN l a k b) (hb : b < n) : a < n := by
  induction h with
  | refl => exact hb
  | step _ h1 ih => exact ih (hg _ h1).1
theorem PathN.ends {n : Nat} {l : List (Nat × Nat)} (hg : Good n l) {a k b : Nat} (h : PathN l a (k + 1) b) : a < n ∧ b < n := by
  cases h with
  | step h h1 => exact ⟨h.start hg (hg _ h1).1, (hg _ h1).2⟩
/-- One round. -/
theorem deepJs_get (i : Nat) (L : List Nat) (s : List Nat) (hi : i ∉ L) (hL : L.Nodup) (hlt : ∀ x ∈ L, x < s.length) :
    (L.foldl (deepJ i) s).length = s.length ∧ ∀ j, (L.foldl (deepJ i) s).getD j default = if j ∈ L then max (s.getD j default) (s.getD i default + 1) else s.getD j default := by
  induction L generalizing s with
  | nil => simp
  | cons x L ih =>
    obtain ⟨h1, h2⟩ := List.nodup_cons.1 hL
    have hxi : x ≠ i := fun e => hi (by simp [e])
    obtain ⟨h3, h4⟩ := ih (deepJ i s x) (fun h => hi (by simp [h])) h2 (fun y hy => by simpa [deepJ] using hlt y (by simp [hy]))
    have hg : ∀ j, (deepJ i s x).getD j default = if x = j ∧ j < s.length then max (s.getD x default) (s.getD i default + 1) else s.getD j default := fun j => by rw [deepJ, set_getD]
    rw [List.foldl_cons]
    refine ⟨by rw [h3]; simp [deepJ], fun j => ?_⟩
    rw [h4, hg j, hg i, if_neg (fun h : x = i ∧ _ => hxi h.1)]
    by_cases hj : j ∈ L
    · have hjx : ¬ x = j := fun e => h1 (e ▸ hj)
      rw [if_pos hj, if_neg (fun h => hjx h.1), if_pos (by simp [hj])]
    · rw [if_neg hj]
      by_cases hjx : x = j
      · subst hjx
        rw [if_pos ⟨rfl, hlt x (by simp)⟩, if_pos (by simp)]
      · rw [if_neg (fun h => hjx h.1), if_neg (by simp [hj]; exact fun e => hjx e.symm)]
theorem pts_nodup (s : Nat) : (pts s).Nodup := List.Pairwise.filter _ List.nodup_range
theorem mem_next {n : Nat} {l : List (Nat × Nat)} (hn : n ≤ 64) (hg : Good n l) {i j : Nat} : j ∈ pts ((outS n l).getD i default) ↔ (i, j) ∈ l := by
  rw [pts_mem, outS_bit]
  exact ⟨fun h => h.2.2, fun h => ⟨by have := (hg _ h).2; omega, (hg _ h).1, h⟩⟩
structure DI (n : Nat) (l : List (Nat × Nat)) (pre : List Nat) (s : List Nat) : Prop where
  len : s.length = n
  ge : ∀ i ∈ pre, ∀ j, (i, j) ∈ l → s.getD i default + 1 ≤ s.getD j default
  eq : ∀ j, s.getD j default = 0 ∨ ∃ i ∈ pre, (i, j) ∈ l ∧ s.getD j default = s.getD i default + 1
theorem DI.next {n : Nat} {l : List (Nat × Nat)} (hn : n ≤ 64) (hg : Good n l) {o pre t s : List Nat} {i : Nat} (ho : TI n l 0 o) (e : o = pre ++ i :: t) (h : DI n l pre s) : DI n l (pre ++ [i]) (deepI (outS n l) s i) := by
  have hnd := ho.nodup
  rw [e, List.nodup_append] at hnd
  have hin : ∀ x, (i, x) ∈ l → x ∉ pre ∧ x ≠ i := by
    intro x hx
    constructor
    · intro hp
      obtain ⟨s1, t1, e1⟩ := List.append_of_mem hp
      have := ho.fwd i x hx s1 (t1 ++ i :: t) (by rw [e, e1]; simp)
      exact hnd.2.2 i (by rw [e1]; simp [this]) i (by simp) rfl
    · intro e'
      have := ho.idx hg hx
      rw [e'] at this; omega
  obtain ⟨h1, h2⟩ := deepJs_get i (pts ((outS n l).getD i default)) s (fun h' => (hin i ((mem_next hn hg).1 h')).2 rfl) (pts_nodup _) (fun x hx => by rw [h.len]; exact (hg _ ((mem_next hn hg).1 hx)).2)
  have h3 : ∀ j, (deepI (outS n l) s i).getD j default = if (i, j) ∈ l then max (s.getD j default) (s.getD i default + 1) else s.getD j default := fun j => by
    rw [deepI, h2]
    by_cases hj : (i, j) ∈ l
    · rw [if_pos hj, if_pos ((mem_next hn hg).2 hj)]
    · rw [if_neg hj, if_neg (fun h => hj ((mem_next hn hg).1 h))]
  have hpre : ∀ x, (x ∈ pre ∨ x = i) → (deepI (outS n l) s i).getD x default = s.getD x default := by
    intro x hx
    rw [h3, if_neg]
    intro h'
    rcases hx with hx | hx
    · exact (hin x h').1 hx
    · exact (hin x h').2 hx
  refine ⟨by rw [deepI, h1, h.len], fun x hx j hj => ?_, fun j => ?_⟩
  · rw [hpre x (by simpa using hx), h3]
    rcases List.mem_append.1 hx with hx | hx
    · have := h.ge x hx j hj
      split <;> omega
    · obtain rfl := List.mem_singleton.1 hx
      rw [if_pos hj]; omega
  · rw [h3]
    split
    · rename_i hj
      rcases Nat.le_total (s.getD j default) (s.getD i default + 1) with hle | hle
      · exact .inr ⟨i, by simp, hj, by rw [hpre i (.inr rfl)]; omega⟩
      · rw [Nat.max_eq_left hle]
        rcases h.eq j with h4 | ⟨x, hx, h4, h5⟩
        · omega
        · exact .inr ⟨x, by simp [hx], h4, by rw [hpre x (.inl hx)]; exact h5⟩
    · rcases h.eq j with h4 | ⟨x, hx, h4, h5⟩
      · exact .inl h4
      · exact .inr ⟨x, by simp [hx], h4, by rw [hpre x (.inl hx)]; exact h5⟩
end Go.Proofs

namespace Go.Proofs
open Go.Aw
theorem Path.firstIn {l : List (Nat × Nat)} (S : Nat → Prop) {a b : Nat} (h : Path l a b) (ha : ¬ S a) : Avo l S a b ∨ ∃ u w, S w ∧ Avo l S a u ∧ (u, w) ∈ l := by
  induction h with
  | refl => exact .inl .refl
  | step h1 h2 ih =>
    rename_i b c
    rcases ih with ih | ih
    · by_cases hc : S c
      · exact .inr ⟨b, c, hc, ih, h2⟩
      · exact .inl (.step ih h2 hc)
    · exact .inr ih
theorem Ov.anti {l : List (Nat × Nat)} {f x y : Nat} (h1 : Ov l f x y) (h2 : Ov l f y x) : x = y := by
  refine Classical.byContradiction fun hxy => ?_
  have hyf : y ≠ f := fun e => by subst e; exact hxy h2.at_first
  have hxf : x ≠ f := fun e => by subst e; exact hxy h1.at_first.symm
  have a1 : ¬ Avo l (fun z => z = y) f x := (h1.2.resolve_left fun e => hxy e.symm).resolve_left hyf
  have a2 : ¬ Avo l (fun z => z = x) f y := (h2.2.resolve_left hxy).resolve_left hxf
  rcases h1.1.firstIn (fun z => z = x ∨ z = y) (by rintro (e | e); exact hxf e.symm; exact hyf e.symm) with h | ⟨u, w, hw, h, hl⟩
  · exact a1 (h.mono fun z hz => .inr hz)
  · rcases hw with rfl | rfl
    · exact a1 (.step (h.mono fun z hz => .inr hz) hl hxy)
    · exact a2 (.step (h.mono fun z hz => .inl hz) hl fun e => hxy e.symm)
/-- Does k stand over i? -/
def ovC (n : Nat) (l : List (Nat × Nat)) (f i k : Nat) : Bool := decide (k = i) || decide (k = f) || !(reach (outS n l) (dif (2 ^ n - 1) (2 ^ k)) f).testBit i
def ovS (n : Nat) (l : List (Nat × Nat)) (f i : Nat) : Nat := addAll 0 ((List.range n).filter (ovC n l f i))
/-- Over which points each way to each one goes. -/
def ovL (n : Nat) (l : List (Nat × Nat)) (f : Nat) : List Nat := (List.range n).map fun i => if (rs n l f).testBit i then ovS n l f i else 0
section
variable {n : Nat} {l : List (Nat × Nat)} {f : Nat} (hn : n ≤ 64) (hg : Good n l) (hf : f < n)
include hn hg hf
theorem ovL_bit (i k : Nat) : ((ovL n l f).getD i default).testBit k = true ↔ k < n ∧ Ov l f i k := by
  by_cases hi : i < n
  · have e : (ovL n l f).getD i default = if (rs n l f).testBit i then ovS n l f i else 0 := by
      unfold ovL
      rw [List.getD_eq_getElem?_getD, List.getElem?_map, List.getElem?_range hi]; rfl
    rw [e]
    by_cases h : (rs n l f).testBit i = true
    · rw [if_pos h]
      have hp := (rs_bit hn hg hf i).1 h
      unfold ovS
      rw [addAll_bit, List.mem_filter, List.mem_range]
      unfold ovC
      have hr : (reach (outS n l) (dif (2 ^ n - 1) (2 ^ k)) f).testBit i = true ↔ Avo l (fun x => x = k) f i := by
        rw [reach_bit (outS_lt' hn hg) (by omega), avo_rch hg hf]
      constructor
      · rintro (h1 | ⟨h1, h2⟩)
        · simp at h1
        · refine ⟨h1, hp, ?_⟩
          rw [Bool.or_eq_true, Bool.or_eq_true, decide_eq_true_eq, decide_eq_true_eq] at h2
          rcases h2 with (h2 | h2) | h2
          · exact .inl h2
          · exact .inr (.inl h2)
          · refine .inr (.inr fun h3 => ?_)
            rw [hr.2 h3] at h2; cases h2
      · rintro ⟨h1, _, h2⟩
        refine .inr ⟨h1, ?_⟩
        rw [Bool.or_eq_true, Bool.or_eq_true, decide_eq_true_eq, decide_eq_true_eq]
        rcases h2 with h2 | h2 | h2
        · exact .inl (.inl h2)
        · exact .inl (.inr h2)
        · right
          cases h3 : (reach (outS n l) (dif (2 ^ n - 1) (2 ^ k)) f).testBit i
          · rfl
          · exact absurd (hr.1 h3) h2
    · rw [if_neg h]
      constructor
      · intro h1; simp at h1
      · intro h1; exact absurd ((rs_bit hn hg hf i).2 h1.2.1) h
  · have e : (ovL n l f).getD i default = default := by
      rw [List.getD_eq_getElem?_getD, List.getElem?_eq_none (by simp [ovL]; omega)]; rfl
    rw [e]
    constructor
    · intro h; exact absurd h (by show ¬ (Nat.testBit 0 k = true); simp)
    · rintro ⟨_, h⟩
      have := h.1.lt hg hf
      omega
theorem ovL_pts (i k : Nat) : k ∈ pts ((ovL n l f).getD i default) ↔ k < n ∧ Ov l f i k := by
  rw [pts_mem, ovL_bit hn hg hf]
  exact ⟨fun h => h.2, fun h => ⟨by omega, h⟩⟩
omit hn in
theorem Ov.lt {i k : Nat} (h : Ov l f i k) : k < n := h.reach.lt hg hf
theorem ovL_mem (i k : Nat) : k ∈ pts ((ovL n l f).getD i default) ↔ Ov l f i k := by
  rw [ovL_pts hn hg hf]
  exact ⟨fun h => h.2, fun h => ⟨h.lt hg hf, h⟩⟩
end
/-- Of some points the one over which most are. -/
def bestK (all : List Nat) (b : Int) (k : Nat) : Int := if b < 0 ∨ (pts (all.getD b.toNat default)).length < (pts (all.getD k default)).length then (k : Int) else b
def lastI (all : List Nat) (i : Nat) : Int := (pts (dif (all.getD i default) (2 ^ i))).foldl (bestK all) (-1)
def lastL (n : Nat) (all : List Nat) : List Int := (List.range n).map (lastI all)
theorem bestK_spec (all : List Nat) : ∀ (L : List Nat) (b : Int), (b = -1 ∨ ∃ x : Nat, b = (x : Int)) →
    (L.foldl (bestK all) b = -1 ∧ L = [] ∧ b = -1) ∨ ∃ x : Nat, L.foldl (bestK all) b = (x : Int) ∧ (x ∈ L ∨ b = (x : Int)) ∧ (∀ k ∈ L, (pts (all.getD k default)).length ≤ (pts (all.getD x default)).length) ∧ (∀ y : Nat, b = (y : Int) → (pts (all.getD y default)).length ≤ (pts (all.getD x default)).length) := by
  intro L
  induction L with
  | nil =>
    intro b hb
    rcases hb with rfl | ⟨x, rfl⟩
    · exact .inl ⟨rfl, rfl, rfl⟩
    · refine .inr ⟨x, rfl, .inr rfl, by simp, fun y hy => ?_⟩
      have := Int.ofNat_inj.1 hy
      rw [this]; exact Nat.le_refl _
  | cons k L ih =>
    intro b hb
    rw [List.foldl_cons]
    have step : bestK all b k = (k : Int) ∨ (∃ x : Nat, b = (x : Int) ∧ bestK all b k = (x : Int) ∧ (pts (all.getD k default)).length ≤ (pts (all.getD x default)).length) := by
      unfold bestK
      split
      · exact .inl rfl
      · rename_i h
        rcases hb with rfl | ⟨x, rfl⟩
        · exact absurd (.inl (by decide)) h
        · refine .inr ⟨x, rfl, rfl, ?_⟩
          rw [Int.toNat_natCast] at h
          omega
    rcases step with e | ⟨x, hx, e, hle⟩
    · rcases ih _ (.inr ⟨k, e⟩) with h | ⟨z, h1, h2, h3, h4⟩
      · rw [e] at h; omega
      · refine .inr ⟨z, h1, .inl ?_, fun j hj => ?_, fun y hy => ?_⟩
        · rcases h2 with h2 | h2
          · exact List.mem_cons_of_mem _ h2
          · rw [e] at h2
            rw [Int.ofNat_inj.1 h2]; simp
        · rcases List.mem_cons.1 hj with rfl | hj
          · exact h4 _ e
          · exact h3 j hj
        · have := h4 k e
          subst hy
          unfold bestK at e
          rw [Int.toNat_natCast] at e
          split at e
          · rename_i h
            rcases h with h | h
            · omega
            · omega
          · have := Int.ofNat_inj.1 e; subst this; exact h4 _ (by unfold bestK; rw [Int.toNat_natCast]; split <;> rfl)
    · rcases ih _ (.inr ⟨x, e⟩) with h | ⟨z, h1, h2, h3, h4⟩
      · rw [e] at h; omega
      · refine .inr ⟨z, h1, ?_, fun j hj => ?_, fun y hy => ?_⟩
        · rcases h2 with h2 | h2
          · exact .inl (List.mem_cons_of_mem _ h2)
          · rw [e] at h2
            exact .inr (hx.trans h2)
        · have := h4 x e
          rcases List.mem_cons.1 hj with rfl | hj
          · omega
          · exact h3 j hj
        · rw [hx] at hy
          have := Int.ofNat_inj.1 hy; subst this
          exact h4 x e
section
variable {n : Nat} {l : List (Nat × Nat)} {f : Nat} (hn : n ≤ 64) (hg : Good n l) (hf : f < n)
include hn hg hf
theorem last_mem (i k : Nat) : k ∈ pts (dif ((ovL n l f).getD i default) (2 ^ i)) ↔ Ov l f i k ∧ k ≠ i := by
  rw [pts_mem, dif_bit, Bool.and_eq_true, ovL_bit hn hg hf]
  have h2 := two_pow_bit i k
  constructor
  · rintro ⟨_, ⟨_, h⟩, h3⟩
    refine ⟨h, fun e => ?_⟩
    rw [h2.2 e.symm] at h3; cases h3
  · rintro ⟨h, h3⟩
    have := h.lt hg hf
    refine ⟨by omega, ⟨this, h⟩, ?_⟩
    cases h4 : (2 ^ i).testBit k
    · rfl
    · exact absurd (h2.1 h4).symm h3
/-- The last one ahead: none, and only the point itself is over it; or one, and over it are all but the point. -/
theorem last_spec (i : Nat) : (lastI (ovL n l f) i = -1 ∧ ∀ k, Ov l f i k → k = i) ∨ ∃ p : Nat, lastI (ovL n l f) i = (p : Int) ∧ p ≠ i ∧ Ov l f i p ∧ ∀ k, Ov l f i k ↔ k = i ∨ Ov l f p k := by
  rcases bestK_spec (ovL n l f) (pts (dif ((ovL n l f).getD i default) (2 ^ i))) (-1) (.inl rfl) with ⟨h1, h2, _⟩ | ⟨p, h1, h2, h3, _⟩
  · refine .inl ⟨h1, fun k hk => Classical.byContradiction fun hne => ?_⟩
    have := (last_mem hn hg hf i k).2 ⟨hk, hne⟩
    rw [h2] at this; cases this
  · have hp := (last_mem hn hg hf i p).1 (h2.resolve_right (by omega))
    refine .inr ⟨p, h1, hp.2, hp.1, fun k => ⟨fun hk => ?_, fun hk => ?_⟩⟩
    · by_cases hki : k = i
      · exact .inl hki
      · right
        rcases hp.1.chain hk with h | h
        · exact h
        · have h5 := h3 k ((last_mem hn hg hf i k).2 ⟨hk, hki⟩)
          -- over p are some of those over k, and as many
          by_cases hpk : p = k
          · subst hpk; exact h
          · exfalso
            have := pig (L := k :: pts ((ovL n l f).getD p default)) (M := pts ((ovL n l f).getD k default)) (List.nodup_cons.2 ⟨fun hm => ?_, pts_nodup _⟩) (fun x hx => ?_)
            · rw [List.length_cons] at this; omega
            · have h6 := (ovL_mem hn hg hf p k).1 hm
              exact hpk (h.anti h6).symm
            · rw [ovL_mem hn hg hf]
              rcases List.mem_cons.1 hx with rfl | hx
              · exact .self hk.reach
              · exact h.trans ((ovL_mem hn hg hf p x).1 hx)
    · rcases hk with rfl | hk
      · exact .self hp.1.1
      · exact hp.1.trans hk
end
/-- The way over the last ones. -/
def wayS (k : List Int) (s : List Nat × Int) : List Nat × Int := (s.1 ++ [s.2.toNat], k.getD s.2.toNat default)
structure WI (l : List (Nat × Nat)) (n f i : Nat) (s : List Nat × Int) : Prop where
  nodup : s.1.Nodup
  mem : ∀ x ∈ s.1, Ov l f i x
  at' : (s.2 = -1 ∧ (∀ x, Ov l f i x → x ∈ s.1) ∧ s.1 ≠ [] ∧ s.1.getLast? = some f) ∨ ∃ a : Nat, s.2 = (a : Int) ∧ a < n ∧ Ov l f i a ∧ (∀ x, Ov l f i x ↔ x ∈ s.1 ∨ Ov l f a x) ∧ ∀ x ∈ s.1, ¬ Ov l f a x
section
variable {n : Nat} {l : List (Nat × Nat)} {f : Nat} (hn : n ≤ 64) (hg : Good n l) (hf : f < n)
include hn hg hf
omit hn hg hf in
theorem WI.start {i : Nat} (hi : i < n) (h : Path l f i) : WI l n f i ([], (i : Int)) :=
  ⟨List.nodup_nil, by simp, .inr ⟨i, rfl, hi, .self h, fun x => by simp, by simp⟩⟩
omit hn hg hf in
theorem last_get {a : Nat} (ha : a < n) : (lastL n (ovL n l f)).getD a default = lastI (ovL n l f) a := by
  unfold lastL
  rw [List.getD_eq_getElem?_getD, List.getElem?_map, List.getElem?_range ha]; rfl
theorem WI.step {i : Nat} {s : List Nat × Int} (h : WI l n f i s) (ha : 0 ≤ s.2) : WI l n f i (wayS (lastL n (ovL n l f)) s) := by
  rcases h.at' with ⟨h1, _⟩ | ⟨a, h1, h2, h3, h4, h5⟩
  · omega
  obtain ⟨way, at'⟩ := s
  simp only at h1 h4 h5 ha
  subst h1
  have haa : a ∉ way := fun hm => h5 a hm (.self h3.reach)
  have hnd : (way ++ [a]).Nodup := by
    rw [List.nodup_append]
    exact ⟨h.nodup, by simp, fun x hx y hy e => by
      rw [List.mem_singleton.1 hy] at e
      exact haa (e ▸ hx)⟩
  unfold wayS
  simp only [Int.toNat_natCast]
  rw [last_get h2]
  refine ⟨hnd, fun x hx => ?_, ?_⟩
  · rcases List.mem_append.1 hx with hx | hx
    · exact h.mem x hx
    · rw [List.mem_singleton.1 hx]; exact h3
  · rcases last_spec hn hg hf a with ⟨e, hl⟩ | ⟨p, e, hpa, hp, hall⟩
    · refine .inl ⟨e, fun x hx => ?_, by simp, ?_⟩
      · rcases (h4 x).1 hx with hx | hx
        · simp [hx]
        · rw [hl x hx]; simp
      · rw [List.getLast?_append]
        have := hl f (.first h3.reach)
        simp [this]
    · refine .inr ⟨p, e, hp.lt hg hf, h3.trans hp, fun x => ?_, fun x hx hpx => ?_⟩
      · rw [h4 x, hall x, List.mem_append, List.mem_singleton]
        exact or_assoc.symm
      · rcases List.mem_append.1 hx with hx | hx
        · exact h5 x hx (hp.trans hpx)
        · rw [List.mem_singleton.1 hx] at hpx
          exact hpa (hp.anti hpx).symm
omit hn in
/-- After as many steps as there are points the way is at its end. -/
theorem WI.ends {i : Nat} {s : List Nat × Int} (h : WI l n f i s) (hs : s.1.length = n) : s.2 = -1 := by
  rcases h.at' with ⟨h1, _⟩ | ⟨a, h1, h2, h3, h4, h5⟩
  · exact h1
  · have haa : a ∉ s.1 := fun hm => h5 a hm (.self h3.reach)
    have := pig (L := a :: s.1) (M := List.range n) (List.nodup_cons.2 ⟨haa, h.nodup⟩) (fun x hx => by
      rcases List.mem_cons.1 hx with rfl | hx
      · simpa using h2
      · simpa using (h.mem x hx).lt hg hf)
    rw [List.length_cons, List.length_range] at this
    omega
end
end Go.Proofs

namespace Go.Proofs
open Go.Aw
def isRoot (P : List Nat) (i : Nat) : Bool := decide (P.getD i default = i)
def rank (P : List Nat) (k : Nat) : Nat := (List.range k).countP (isRoot P)
/-- Parts numbered by their least points. -/
def numI (P : List Nat) (s : List Nat × Nat) (i : Nat) : List Nat × Nat := if isRoot P i then (s.1.set i s.2, s.2 + 1) else s
def numS (n : Nat) (P : List Nat) (k : Nat) : List Nat × Nat := (List.range k).foldl (numI P) (List.replicate n 0, 0)
/-- Of each point which part it is of. -/
def fOutP (n : Nat) (P : List Nat) (k : Nat) : List Nat := (List.range k).map fun i => (numS n P n).1.getD (P.getD i default) default
def fOut (n : Nat) (l : List (Nat × Nat)) : List Nat := fOutP n (strongP n l) n
def fMany (n : Nat) (l : List (Nat × Nat)) : Nat := (numS n (strongP n l) n).2
def crossL (out : List Nat) (l : List (Nat × Nat)) : List (Nat × Nat) := (l.map fun p => (out.getD p.1 default, out.getD p.2 default)).filter fun p => decide (p.1 ≠ p.2)
def fNext (n : Nat) (l : List (Nat × Nat)) : List Nat := outS (fMany n l) (crossL (fOut n l) l)
def linesK (next : List Nat) (k : Nat) : List (Nat × Nat) := (List.range k).flatMap fun a => (pts (next.getD a default)).map fun b => (a, b)
def fLines (n : Nat) (l : List (Nat × Nat)) : List (Nat × Nat) := linesK (fNext n l) (fMany n l)
theorem range_getD {α : Type} [Inhabited α] (f : Nat → α) {n i : Nat} (h : i < n) : ((List.range n).map f).getD i default = f i := by
  rw [List.getD_eq_getElem?_getD, List.getElem?_map, List.getElem?_range h]; rfl
section
variable {n : Nat} {l : List (Nat × Nat)} (hn : n ≤ 64) (hg : Good n l)
include hn hg
end
end Go.Proofs

namespace Go.Proofs
open Go.Aw
/-- Lines and the same turned. -/
def symL (l : List (Nat × Nat)) : List (Nat × Nat) := l ++ l.map flip
theorem symL_mem {l : List (Nat × Nat)} {a b : Nat} : (a, b) ∈ symL l ↔ (a, b) ∈ l ∨ (b, a) ∈ l := by
  unfold symL; rw [List.mem_append, flip_mem]
theorem symL_good {n : Nat} {l : List (Nat × Nat)} (h : Good n l) : Good n (symL l) := fun p hp => by
  rcases List.mem_append.1 hp with hp | hp
  · exact h p hp
  · exact h.flip p hp
theorem symL_flip {l : List (Nat × Nat)} {a b : Nat} (h : (a, b) ∈ symL l) : (b, a) ∈ symL l := symL_mem.2 (symL_mem.1 h).symm
theorem sym_path {l : List (Nat × Nat)} {a b : Nat} (h : Path (symL l) a b) : Path (symL l) b a := by
  induction h with
  | refl => exact .refl
  | step _ h1 ih => exact (Path.one (symL_flip h1)).trans ih
theorem PathN.path {l : List (Nat × Nat)} {a k b : Nat} (h : PathN l a k b) : Path l a b := by
  induction h with
  | refl => exact .refl
  | step _ h1 ih => exact .step ih h1
/-- Broad search. -/
structure BS where
  out : List Int
  todo : List Nat
def bJ (x : Nat) (s : BS) (j : Nat) : BS := if s.out.getD j default < 0 then ⟨s.out.set j (s.out.getD x default + 1), s.todo ++ [j]⟩ else s
def bIn (next : List Nat) (s : BS) (x : Nat) : BS := (pts (next.getD x default)).foldl (bJ x) s
def bStep (next : List Nat) (s : BS) : BS := ⟨(bIn next s (s.todo.getD 0 default)).out, (bIn next s (s.todo.getD 0 default)).todo.drop 1⟩
def bRun (next : List Nat) : Nat → BS → BS
  | 0, s => s
  | m + 1, s => if s.todo = [] then s else bRun next m (bStep next s)
def bStart (n f : Nat) : BS := ⟨(List.replicate n (-1)).set f 0, [f]⟩
def farL (n : Nat) (l : List (Nat × Nat)) (f : Nat) : List Int := (bRun (outS n (symL l)) n (bStart n f)).out
def negs (s : List Int) : Nat := s.countP fun x => decide (x < 0)
structure BI (n : Nat) (l : List (Nat × Nat)) (f : Nat) (s : BS) : Prop where
  len : s.out.length = n
  val : ∀ j, j < n → s.out.getD j default = -1 ∨ ∃ k : Nat, s.out.getD j default = (k : Int) ∧ PathN l f k j ∧ k + negs s.out < n
  todo : ∀ x ∈ s.todo, x < n ∧ 0 ≤ s.out.getD x default
  first : 0 ≤ s.out.getD f default
  room : negs s.out < n
/-- Whom a point that is done has lines to are met. -/
def BC (l : List (Nat × Nat)) (s : BS) (D : Nat → Prop) : Prop := ∀ x, 0 ≤ s.out.getD x default → (x ∈ s.todo → D x) → ∀ j, (x, j) ∈ l → 0 ≤ s.out.getD j default
theorem negs_set {s : List Int} {j : Nat} {v : Int} (hj : j < s.length) (h : s.getD j default < 0) (hv : 0 ≤ v) : negs (s.set j v) + 1 = negs s := by
  induction s generalizing j with
  | nil => simp at hj
  | cons x s ih =>
    cases j with
    | zero =>
      have hx : x < 0 := h
      unfold negs
      rw [List.set_cons_zero, List.countP_cons, List.countP_cons, if_neg (by simp; omega), if_pos (by simpa using hx)]
    | succ j =>
      have := ih (j := j) (by simpa using hj) h
      unfold negs at this ⊢
      rw [List.set_cons_succ, List.countP_cons, List.countP_cons]
      omega
section
variable {n : Nat} {l : List (Nat × Nat)} {f : Nat} (hn : n ≤ 64) (hg : Good n l)
include hg
/-- One more point. -/
theorem BI.j {s : BS} (h : BI n l f s) {x j : Nat} (hx : x < n) (hx0 : 0 ≤ s.out.getD x default) (hj : (x, j) ∈ l) :
    BI n l f (bJ x s j) ∧ (∀ y, 0 ≤ s.out.getD y default → (bJ x s j).out.getD y default = s.out.getD y default) ∧ 0 ≤ (bJ x s j).out.getD j default ∧
    s.todo <+: (bJ x s j).todo ∧ (∀ y, 0 ≤ (bJ x s j).out.getD y default → 0 ≤ s.out.getD y default ∨ y ∈ (bJ x s j).todo) ∧ (bJ x s j).todo.length + negs (bJ x s j).out = s.todo.length + negs s.out := by
  have hjn := (hg _ hj).2
  unfold bJ
  by_cases hc : s.out.getD j default < 0
  · rw [if_pos hc]
    simp only
    have hjl : j < s.out.length := by rw [h.len]; exact hjn
    have hjx : j ≠ x := fun e => by subst e; omega
    have hset : ∀ y, (s.out.set j (s.out.getD x default + 1)).getD y default = if j = y then s.out.getD x default + 1 else s.out.getD y default := fun y => by
      rw [set_getD]
      by_cases e : j = y
      · rw [if_pos ⟨e, by omega⟩, if_pos e]
      · rw [if_neg (fun h => e h.1), if_neg e]
    have hneg := negs_set (v := s.out.getD x default + 1) hjl hc (by omega)
    have hpos : ∀ y, 0 ≤ s.out.getD y default → (s.out.set j (s.out.getD x default + 1)).getD y default = s.out.getD y default := fun y hy => by
      rw [hset, if_neg]; intro e; subst e; omega
    refine ⟨⟨by simp [h.len], fun y hy => ?_, fun y hy => ?_, ?_, by have := h.room; simp only; omega⟩, hpos, ?_, List.prefix_append _ _, fun y hy => ?_, ?_⟩
    · simp only [hset]
      by_cases e : j = y
      · rw [if_pos e]
        subst e
        rcases h.val x hx with h1 | ⟨k, h1, h2, h3⟩
        · omega
        · exact .inr ⟨k + 1, by rw [h1]; rfl, .step h2 hj, by omega⟩
      · rw [if_neg e]
        rcases h.val y hy with h1 | ⟨k, h1, h2, h3⟩
        · exact .inl h1
        · exact .inr ⟨k, h1, h2, by omega⟩
    · rcases List.mem_append.1 hy with hy | hy
      · have := h.todo y hy
        exact ⟨this.1, by simp only; rw [hpos y this.2]; exact this.2⟩
      · rw [List.mem_singleton.1 hy]
        exact ⟨hjn, by simp only; rw [hset, if_pos rfl]; omega⟩
    · simp only; rw [hpos f h.first]; exact h.first
    · rw [hset, if_pos rfl]; omega
    · rw [hset] at hy
      by_cases e : j = y
      · right; simp [e]
      · rw [if_neg e] at hy; exact .inl hy
    · rw [List.length_append, List.length_singleton]; omega
  · rw [if_neg hc]
    exact ⟨h, fun _ _ => rfl, by omega, List.prefix_rfl, fun y hy => .inl hy, rfl⟩
theorem BI.js {x : Nat} (hx : x < n) : ∀ (L : List Nat) (s : BS), BI n l f s → 0 ≤ s.out.getD x default → (∀ j ∈ L, (x, j) ∈ l) →
    BI n l f (L.foldl (bJ x) s) ∧ (∀ y, 0 ≤ s.out.getD y default → (L.foldl (bJ x) s).out.getD y default = s.out.getD y default) ∧ (∀ j ∈ L, 0 ≤ (L.foldl (bJ x) s).out.getD j default) ∧
    s.todo <+: (L.foldl (bJ x) s).todo ∧ (∀ y, 0 ≤ (L.foldl (bJ x) s).out.getD y default → 0 ≤ s.out.getD y default ∨ y ∈ (L.foldl (bJ x) s).todo) ∧ (L.foldl (bJ x) s).todo.length + negs (L.foldl (bJ x) s).out = s.todo.length + negs s.out := by
  intro L
  induction L with
  | nil => intro s h _ _; exact ⟨h, fun _ _ => rfl, by simp, List.prefix_rfl, fun y hy => .inl hy, rfl⟩
  | cons j L ih =>
    intro s h hx0 hL
    obtain ⟨h1, h2, h3, h4, h5, h6⟩ := h.j hg hx hx0 (hL j (by simp))
    obtain ⟨g1, g2, g3, g4, g5, g6⟩ := ih (bJ x s j) h1 (by rw [h2 x hx0]; exact hx0) (fun y hy => hL y (by simp [hy]))
    rw [List.foldl_cons]
    refine ⟨g1, fun y hy => by rw [g2 y (by rw [h2 y hy]; exact hy), h2 y hy], fun y hy => ?_, h4.trans g4, fun y hy => ?_, by omega⟩
    · rcases List.mem_cons.1 hy with rfl | hy
      · rw [g2 y h3]; exact h3
      · exact g3 y hy
    · rcases g5 y hy with h | h
      · rcases h5 y h with h | h
        · exact .inl h
        · exact .inr (g4.subset h)
      · exact .inr h
include hn
theorem BI.step {s : BS} (h : BI n l f s) (hc : BC l s fun _ => False) (ht : s.todo ≠ []) :
    BI n l f (bStep (outS n l) s) ∧ BC l (bStep (outS n l) s) (fun _ => False) ∧ (bStep (outS n l) s).todo.length + negs (bStep (outS n l) s).out + 1 = s.todo.length + negs s.out := by
  obtain ⟨x, t, e⟩ := List.exists_cons_of_ne_nil ht
  have hx := h.todo x (by rw [e]; simp)
  have e0 : s.todo.getD 0 default = x := by rw [e]; rfl
  obtain ⟨h1, h2, h3, h4, h5, h6⟩ := BI.js hg hx.1 (pts ((outS n l).getD x default)) s h hx.2 (fun j hj => (mem_next hn hg).1 hj)
  unfold bStep bIn
  rw [e0]
  generalize (pts ((outS n l).getD x default)).foldl (bJ x) s = s' at h1 h2 h3 h4 h5 h6
  obtain ⟨u, hu⟩ := h4
  rw [e] at hu
  have hd : s'.todo.drop 1 = t ++ u := by rw [← hu]; rfl
  refine ⟨⟨h1.len, h1.val, fun y hy => h1.todo y (List.mem_of_mem_drop hy), h1.first, h1.room⟩, ?_, ?_⟩
  · intro y hy hny j hj
    simp only at hy hny ⊢
    rw [hd] at hny
    by_cases hyx : y = x
    · subst hyx; exact h3 j ((mem_next hn hg).2 hj)
    · rcases h5 y hy with h7 | h7
      · have hyt : y ∉ s.todo := fun hm => by
          rw [e] at hm
          rcases List.mem_cons.1 hm with h8 | h8
          · exact hyx h8
          · exact hny (by simp [h8])
        have := hc y h7 (fun hm => hyt hm) j hj
        rw [h2 j this]; exact this
      · rw [← hu] at h7
        rcases List.mem_append.1 h7 with h8 | h8
        · rcases List.mem_cons.1 h8 with h9 | h9
          · exact absurd h9 hyx
          · exact (hny (by simp [h9])).elim
        · exact (hny (by simp [h8])).elim
  · simp only
    have : s'.todo.length = t.length + 1 + u.length := by rw [← hu]; simp; omega
    rw [hd, List.length_append]
    rw [this] at h6
    omega
theorem bRun_end : ∀ (m : Nat) (s : BS), BI n l f s → BC l s (fun _ => False) → s.todo.length + negs s.out ≤ m → BI n l f (bRun (outS n l) m s) ∧ BC l (bRun (outS n l) m s) (fun _ => False) ∧ (bRun (outS n l) m s).todo = [] := by
  intro m
  induction m with
  | zero =>
    intro s h hc hm
    exact ⟨h, hc, List.eq_nil_of_length_eq_zero (by show s.todo.length = 0; omega)⟩
  | succ m ih =>
    intro s h hc hm
    unfold bRun
    by_cases ht : s.todo = []
    · rw [if_pos ht]; exact ⟨h, hc, ht⟩
    · rw [if_neg ht]
      obtain ⟨h1, h2, h3⟩ := h.step hn hg hc ht
      exact ih _ h1 h2 (by omega)
end
theorem negs_replicate (n : Nat) : negs (List.replicate n (-1)) = n := by
  unfold negs
  rw [List.countP_replicate, if_pos (by decide)]
theorem BI.start {n : Nat} {l : List (Nat × Nat)} (hgl : Good n l) {f : Nat} (hf : f < n) : BI n l f (bStart n f) ∧ BC l (bStart n f) (fun _ => False) ∧ (bStart n f).todo.length + negs (bStart n f).out = n := by
  have hg : ∀ y, ((List.replicate n (-1 : Int)).set f 0).getD y default = if f = y then 0 else (List.replicate n (-1 : Int)).getD y default := fun y => by
    rw [set_getD]
    by_cases e : f = y
    · rw [if_pos ⟨e, by simp; omega⟩, if_pos e]
    · rw [if_neg (fun h => e h.1), if_neg e]
  have hr : ∀ y, y < n → (List.replicate n (-1 : Int)).getD y default = -1 := fun y hy => by
    rw [List.getD_eq_getElem?_getD, List.getElem?_replicate, if_pos hy]; rfl
  have hneg := negs_set (s := List.replicate n (-1)) (j := f) (v := 0) (by simpa using hf) (by rw [hr f hf]; decide) (by decide)
  rw [negs_replicate] at hneg
  refine ⟨⟨by simp [bStart], fun j hj => ?_, fun x hx => ?_, ?_, ?_⟩, ?_, ?_⟩
  · simp only [bStart]
    rw [hg]
    by_cases e : f = j
    · rw [if_pos e]; subst e; exact .inr ⟨0, rfl, .refl, by omega⟩
    · rw [if_neg e]; exact .inl (hr j hj)
  · have hx : x = f := List.mem_singleton.1 hx
    subst hx
    exact ⟨hf, by simp only [bStart]; rw [hg, if_pos rfl]; decide⟩
  · simp only [bStart]; rw [hg, if_pos rfl]; decide
  · simp only [bStart]; omega
  · intro x hx hnx j hj
    simp only [bStart] at hx hnx
    rw [hg] at hx
    by_cases e : f = x
    · exact (hnx (by simp [e])).elim
    · rw [if_neg e] at hx
      by_cases hxn : x < n
      · rw [hr x hxn] at hx; omega
      · exact absurd (hgl _ hj).1 hxn
  · simp only [bStart, List.length_singleton]; omega
/-- Where there is a way there is a number of lines by which it goes. -/
theorem far_spec {n : Nat} {l : List (Nat × Nat)} (hn : n ≤ 64) (hg : Good n l) {f : Nat} (hf : f < n) : (farL n l f).length = n ∧ ∀ j, Path (symL l) f j → ∃ k : Nat, (farL n l f).getD j default = (k : Int) ∧ PathN (symL l) f k j ∧ k < n := by
  obtain ⟨h1, h2, h3⟩ := BI.start (symL_good hg) hf
  obtain ⟨g1, g2, g3⟩ := bRun_end hn (symL_good hg) n _ h1 h2 (by omega)
  refine ⟨g1.len, fun j hj => ?_⟩
  have hpos : 0 ≤ (farL n l f).getD j default := by
    induction hj with
    | refl => exact g1.first
    | step _ h1 ih => exact g2 _ ih (fun hm => by rw [g3] at hm; cases hm) _ h1
  rcases g1.val j (hj.lt (symL_good hg) hf) with h | ⟨k, h4, h5, h6⟩
  · have h : (farL n l f).getD j default = -1 := h
    omega
  · exact ⟨k, h4, h5, by omega⟩
/-- The least point with which one hangs together. -/
def rootP (n : Nat) (l : List (Nat × Nat)) (i : Nat) : Nat := low (rs n (symL l) i)
/-- Both parts. -/
def halfL (n : Nat) (l : List (Nat × Nat)) : List Int := (List.range n).map fun i => (farL n l (rootP n l i)).getD i default % 2
def halfOk (n : Nat) (l : List (Nat × Nat)) : Bool := l.all fun p => !decide ((halfL n l).getD p.1 default = (halfL n l).getD p.2 default)
section
variable {n : Nat} {l : List (Nat × Nat)} (hn : n ≤ 64) (hg : Good n l)
include hn hg
theorem root_spec {i : Nat} (hi : i < n) : rootP n l i ≤ i ∧ Path (symL l) (rootP n l i) i := by
  obtain ⟨_, h1, h2⟩ := low_spec ((rs_bit hn (symL_good hg) hi i).2 .refl) (by omega)
  exact ⟨h2, sym_path ((rs_bit hn (symL_good hg) hi _).1 h1)⟩
theorem root_eq {i j : Nat} (hi : i < n) (hj : j < n) (h : Path (symL l) i j) : rootP n l i = rootP n l j := by
  unfold rootP
  congr 1
  refine bits_eq fun k => ?_
  rw [Bool.eq_iff_iff, rs_bit hn (symL_good hg) hi, rs_bit hn (symL_good hg) hj]
  exact ⟨fun h' => (sym_path h).trans h', fun h' => h.trans h'⟩
theorem half_get {i : Nat} (hi : i < n) : ∃ k : Nat, (halfL n l).getD i default = (k : Int) % 2 ∧ PathN (symL l) (rootP n l i) k i := by
  obtain ⟨h1, h2⟩ := root_spec hn hg hi
  obtain ⟨k, h3, h4, _⟩ := (far_spec hn hg (f := rootP n l i) (by omega)).2 i h2
  refine ⟨k, ?_, h4⟩
  unfold halfL
  rw [List.getD_eq_getElem?_getD, List.getElem?_map, List.getElem?_range hi, Option.map_some, Option.getD_some, h3]
omit hn hg in
theorem PathN.col {c : Nat → Bool} (hc : ∀ a b, (a, b) ∈ l → c a ≠ c b) {a k b : Nat} (h : PathN (symL l) a k b) : c b = (c a != decide (k % 2 = 1)) := by
  induction h with
  | refl => simp
  | step _h0 h1 ih =>
    rename_i k b d
    have e : c b ≠ c d := by
      rcases symL_mem.1 h1 with h | h
      · exact hc _ _ h
      · exact (hc _ _ h).symm
    rcases Nat.mod_two_eq_zero_or_one k with hk | hk
    · have h1 : (k + 1) % 2 = 1 := by omega
      rw [hk] at ih; rw [h1]
      revert e ih; cases c a <;> cases c b <;> cases c d <;> decide
    · have h1 : (k + 1) % 2 = 0 := by omega
      rw [hk] at ih; rw [h1]
      revert e ih; cases c a <;> cases c b <;> cases c d <;> decide
/-- Points can be parted in two just if some way to part them is right. -/
theorem half_iff : halfOk n l = true ↔ ∃ c : Nat → Bool, ∀ a b, (a, b) ∈ l → c a ≠ c b := by
  unfold halfOk
  rw [List.all_eq_true]
  constructor
  · intro h
    refine ⟨fun i => decide ((halfL n l).getD i default = 1), fun a b hab e => ?_⟩
    have h1 := h _ hab
    simp only [Bool.not_eq_true', decide_eq_false_iff_not] at h1
    obtain ⟨k, h2, _⟩ := half_get hn hg (hg _ hab).1
    obtain ⟨m, h3, _⟩ := half_get hn hg (hg _ hab).2
    simp only at h2 h3 h1 e
    rw [h2, h3] at h1 e
    rw [decide_eq_decide] at e
    omega
  · rintro ⟨c, hc⟩ ⟨a, b⟩ hab
    simp only [Bool.not_eq_true', decide_eq_false_iff_not]
    have ha := (hg _ hab).1
    have hb := (hg _ hab).2
    obtain ⟨k, h2, h4⟩ := half_get hn hg ha
    obtain ⟨m, h3, h5⟩ := half_get hn hg hb
    simp only at h2 h3
    rw [h2, h3]
    rw [← root_eq hn hg ha hb (.one (symL_mem.2 (.inl hab)))] at h5
    have h6 := h4.col hc
    have h7 := h5.col hc
    have h8 := hc _ _ hab
    intro e
    have e : k % 2 = m % 2 := by omega
    rw [e] at h6
    rw [h6, h7] at h8
    exact h8 rfl
omit hn hg in
theorem half_part (h : halfOk n l = true) {a b : Nat} (hab : (a, b) ∈ l) : (halfL n l).getD a default ≠ (halfL n l).getD b default := by
  have := (List.all_eq_true.1 h) _ hab
  simpa using this
end
end Go.Proofs

namespace Go.Proofs
open Go.Aw
/-- Does a part fall apart without a point? -/
def cutB (n : Nat) (l : List (Nat × Nat)) (i : Nat) : Bool := (pts ((outS n (symL l)).getD i default)).any fun j => !(reach (outS n (symL l)) (dif (2 ^ n - 1) (2 ^ i)) (low ((outS n (symL l)).getD i default))).testBit j
def cutL (n : Nat) (l : List (Nat × Nat)) : List Nat := (List.range n).filter (cutB n l)
end Go.Proofs

namespace Go.Proofs
open Go.Aw
/-- Who asks whom: free ones, how many each has asked, whom each has. -/
structure GS where
  free : List Nat
  nx : List Nat
  has : List Int
def gJ (L : List (List Nat)) (g : GS) (i : Nat) : Nat := (L.getD i default).getD (g.nx.getD i default) default
def gStep (L R : List (List Nat)) (g : GS) : GS :=
  match g.free with
  | [] => g
  | i :: rest =>
    if g.has.getD (gJ L g i) default < 0 then ⟨rest, g.nx.set i (g.nx.getD i default + 1), g.has.set (gJ L g i) i⟩
    else if (R.getD (gJ L g i) default).idxOf i < (R.getD (gJ L g i) default).idxOf (g.has.getD (gJ L g i) default).toNat then ⟨(g.has.getD (gJ L g i) default).toNat :: rest, g.nx.set i (g.nx.getD i default + 1), g.has.set (gJ L g i) i⟩
    else ⟨i :: rest, g.nx.set i (g.nx.getD i default + 1), g.has⟩
def gRun (L R : List (List Nat)) : Nat → GS → GS
  | 0, g => g
  | m + 1, g => if g.free = [] then g else gRun L R m (gStep L R g)
def gStart (n : Nat) : GS := ⟨List.range n, List.replicate n 0, List.replicate n (-1)⟩
def outG (has : List Int) : List Nat := (List.range has.length).foldl (fun o j => o.set (has.getD j default).toNat j) (List.replicate has.length 0)
def gale (n : Nat) (L R : List (List Nat)) : List Nat := outG (gRun L R (n * n) (gStart n)).has
structure Prefs (n : Nat) (L : List (List Nat)) : Prop where
  len : L.length = n
  each : ∀ x ∈ L, x.length = n ∧ x.Nodup ∧ ∀ y ∈ x, y < n
def rk (L : List (List Nat)) (i j : Nat) : Nat := (L.getD i default).idxOf j
/-- Pairs: none twice. -/
structure Pairs (n : Nat) (h : Nat → Nat) : Prop where
  lt : ∀ i, i < n → h i < n
  inj : ∀ i k, i < n → k < n → h i = h k → i = k
theorem Pairs.sur {n : Nat} {h : Nat → Nat} (hp : Pairs n h) {j : Nat} (hj : j < n) : ∃ i, i < n ∧ h i = j := by
  refine Classical.byContradiction fun hno => ?_
  have hnd : (j :: (List.range n).map h).Nodup := by
    refine List.nodup_cons.2 ⟨fun hm => ?_, ?_⟩
    · obtain ⟨i, hi, e⟩ := List.mem_map.1 hm
      exact hno ⟨i, by simpa using hi, e⟩
    · rw [List.Nodup, List.pairwise_map]
      refine (List.nodup_range (n := n)).imp_of_mem fun {a b} ha hb hne e => hne (hp.inj a b (by simpa using ha) (by simpa using hb) e)
  have := pig (M := List.range n) hnd (fun x hx => by
    rcases List.mem_cons.1 hx with rfl | hx
    · simpa using hj
    · obtain ⟨i, hi, rfl⟩ := List.mem_map.1 hx
      simpa using hp.lt i (by simpa using hi))
  simp at this; omega
/-- No two would rather have each other. -/
def Stb (n : Nat) (L R : List (List Nat)) (h : Nat → Nat) : Prop := ∀ i k, i < n → k < n → ¬ (rk L i (h k) < rk L i (h i) ∧ rk R (h k) i < rk R (h k) k)
section
variable {n : Nat} {L R : List (List Nat)}
theorem Prefs.row (h : Prefs n L) {i : Nat} (hi : i < n) : (L.getD i default).length = n ∧ (L.getD i default).Nodup ∧ ∀ y ∈ L.getD i default, y < n := h.each _ (getD_mem (by rw [h.len]; exact hi))
theorem Prefs.mem (h : Prefs n L) {i j : Nat} (hi : i < n) (hj : j < n) : j ∈ L.getD i default := by
  obtain ⟨h1, h2, h3⟩ := h.row hi
  refine Classical.byContradiction fun hno => ?_
  have := pig (M := List.range n) (List.nodup_cons.2 ⟨hno, h2⟩) (fun x hx => by
    rcases List.mem_cons.1 hx with rfl | hx
    · simpa using hj
    · simpa using h3 x hx)
  rw [List.length_cons, h1, List.length_range] at this; omega
theorem Prefs.rk_lt (h : Prefs n L) {i j : Nat} (hi : i < n) (hj : j < n) : rk L i j < n := by
  have := List.idxOf_lt_length_of_mem (h.mem hi hj)
  rw [(h.row hi).1] at this
  exact this
theorem Prefs.get_lt (h : Prefs n L) {i t : Nat} (hi : i < n) (ht : t < n) : (L.getD i default).getD t default < n := (h.row hi).2.2 _ (getD_mem (by rw [(h.row hi).1]; exact ht))
theorem Prefs.rk_get (h : Prefs n L) {i t : Nat} (hi : i < n) (ht : t < n) : rk L i ((L.getD i default).getD t default) = t := by
  obtain ⟨h1, h2, _⟩ := h.row hi
  unfold rk
  generalize L.getD i default = x at h1 h2
  have ht' : t < x.length := by omega
  rw [List.getD_eq_getElem?_getD, List.getElem?_eq_getElem ht', Option.getD_some]
  have := List.idxOf_lt_length_of_mem (List.getElem_mem ht')
  have e := List.getElem_idxOf this
  exact (List.getElem_inj (h₀ := this) (h₁ := ht') h2).1 e
theorem Prefs.get_rk (h : Prefs n L) {i j : Nat} (hi : i < n) (hj : j < n) : (L.getD i default).getD (rk L i j) default = j := by
  have hm := h.mem hi hj
  unfold rk
  generalize L.getD i default = x at hm
  have := List.idxOf_lt_length_of_mem hm
  rw [List.getD_eq_getElem?_getD, List.getElem?_eq_getElem this, Option.getD_some]
  exact List.getElem_idxOf this
theorem Prefs.rk_inj (h : Prefs n L) {i j k : Nat} (hi : i < n) (hj : j < n) (hk : k < n) (e : rk L i j = rk L i k) : j = k := by
  rw [← h.get_rk hi hj, ← h.get_rk hi hk, e]
/-- What holds in each round. -/
structure GI (n : Nat) (L R : List (List Nat)) (g : GS) : Prop where
  ln : g.nx.length = n
  lh : g.has.length = n
  freeLt : ∀ i ∈ g.free, i < n
  nodup : g.free.Nodup
  hasR : ∀ j, j < n → g.has.getD j default = -1 ∨ ∃ i, i < n ∧ g.has.getD j default = (i : Int) ∧ i ∉ g.free ∧ 0 < g.nx.getD i default ∧ (L.getD i default).getD (g.nx.getD i default - 1) default = j
  cov : ∀ i, i < n → i ∈ g.free ∨ ∃ j, j < n ∧ g.has.getD j default = (i : Int)
  nxle : ∀ i, i < n → g.nx.getD i default ≤ n
  prop : ∀ i, i < n → ∀ t, t < g.nx.getD i default → ∃ k, k < n ∧ g.has.getD ((L.getD i default).getD t default) default = (k : Int) ∧ rk R ((L.getD i default).getD t default) k ≤ rk R ((L.getD i default).getD t default) i
  imp : ∀ i, i < n → ∀ t, t < g.nx.getD i default → g.has.getD ((L.getD i default).getD t default) default ≠ (i : Int) → ∀ h, Pairs n h → Stb n L R h → h i ≠ (L.getD i default).getD t default
theorem GI.inj {g : GS} (h : GI n L R g) {j k i : Nat} (hj : j < n) (hk : k < n) (h1 : g.has.getD j default = (i : Int)) (h2 : g.has.getD k default = (i : Int)) : j = k := by
  rcases h.hasR j hj with h3 | ⟨a, _, h3, _, _, h4⟩
  · omega
  · rcases h.hasR k hk with h5 | ⟨b, _, h5, _, _, h6⟩
    · omega
    · have ea : a = i := by omega
      have eb : b = i := by omega
      subst ea
      subst eb
      rw [← h4, ← h6]
/-- Who is free has not asked all. -/
theorem GI.nx_lt {g : GS} (hL : Prefs n L) (h : GI n L R g) {i : Nat} (hi : i ∈ g.free) : g.nx.getD i default < n := by
  have hin := h.freeLt i hi
  have h1 := h.nxle i hin
  refine Classical.byContradiction fun hno => ?_
  have e : g.nx.getD i default = n := by omega
  -- all have someone
  have hall : ∀ j, j < n → ∃ k, k < n ∧ g.has.getD j default = (k : Int) := by
    intro j hj
    obtain ⟨k, hk, h2, _⟩ := h.prop i hin (rk L i j) (by rw [e]; exact hL.rk_lt hin hj)
    rw [hL.get_rk hin hj] at h2
    exact ⟨k, hk, h2⟩
  have hp : Pairs n fun j => (g.has.getD j default).toNat := by
    refine ⟨fun j hj => ?_, fun j k hj hk e' => ?_⟩
    · obtain ⟨k, hk, h2⟩ := hall j hj
      show (g.has.getD j default).toNat < n
      rw [h2]; exact hk
    · obtain ⟨a, _, ha⟩ := hall j hj
      obtain ⟨b, _, hb⟩ := hall k hk
      simp only [ha, hb, Int.toNat_natCast] at e'
      subst e'
      exact h.inj hj hk ha hb
  obtain ⟨j, hj, e'⟩ := hp.sur hin
  obtain ⟨a, _, ha⟩ := hall j hj
  simp only [ha, Int.toNat_natCast] at e'
  subst e'
  rcases h.hasR j hj with h3 | ⟨b, _, h3, h4, _⟩
  · omega
  · have : b = a := by omega
    subst this
    exact h4 hi
theorem getD_set {α : Type} [Inhabited α] (s : List α) (i j : Nat) (x : α) (hi : i < s.length) : (s.set i x).getD j default = if j = i then x else s.getD j default := by
  rw [set_getD]
  by_cases h : i = j
  · subst h; simp [hi]
  · rw [if_neg (fun h' => h h'.1), if_neg (fun e => h e.symm)]
/-- One who asks, and is kept by whom he asks; the other one, if there is one, is free. -/
theorem GI.take {g : GS} {i : Nat} {rest : List Nat} (hL : Prefs n L) (hR : Prefs n R) (h : GI n L R g) (hf : g.free = i :: rest) (f' : List Nat)
    (hw : (g.has.getD (gJ L g i) default = -1 ∧ f' = rest) ∨ ∃ w, w < n ∧ g.has.getD (gJ L g i) default = (w : Int) ∧ rk R (gJ L g i) i < rk R (gJ L g i) w ∧ f' = w :: rest) :
    GI n L R ⟨f', g.nx.set i (g.nx.getD i default + 1), g.has.set (gJ L g i) i⟩ := by
  have hi : i ∈ g.free := by rw [hf]; simp
  have hin := h.freeLt i hi
  have hlt := h.nx_lt hL hi
  have hj : gJ L g i < n := hL.get_lt hin hlt
  have hnd := h.nodup
  rw [hf, List.nodup_cons] at hnd
  have hnx : ∀ k, (g.nx.set i (g.nx.getD i default + 1)).getD k default = if k = i then g.nx.getD i default + 1 else g.nx.getD k default := fun k => getD_set _ _ _ _ (by rw [h.ln]; exact hin)
  have hhas : ∀ k, (g.has.set (gJ L g i) (i : Int)).getD k default = if k = gJ L g i then (i : Int) else g.has.getD k default := fun k => getD_set _ _ _ _ (by rw [h.lh]; exact hj)
  -- i has nobody yet
  have hno : ∀ k, k < n → g.has.getD k default ≠ (i : Int) := by
    intro k hk e
    rcases h.hasR k hk with h3 | ⟨b, _, h3, h4, _⟩
    · omega
    · have : b = i := by omega
      subst this; exact h4 hi
  have hwi : ∀ w : Nat, g.has.getD (gJ L g i) default = (w : Int) → w ≠ i := fun w e e' => hno _ hj (by rw [e, e'])
  have hwf : ∀ w : Nat, g.has.getD (gJ L g i) default = (w : Int) → w ∉ g.free := by
    intro w e
    rcases h.hasR _ hj with h3 | ⟨b, _, h3, h4, _⟩
    · omega
    · have : b = w := by omega
      subst this; exact h4
  have hmem : ∀ x : Nat, x ∈ f' → (x ∈ rest ∨ g.has.getD (gJ L g i) default = (x : Int)) := by
    intro x hx
    rcases hw with ⟨_, e⟩ | ⟨w, _, h1, _, e⟩
    · rw [e] at hx; exact .inl hx
    · rw [e] at hx
      rcases List.mem_cons.1 hx with rfl | hx
      · exact .inr h1
      · exact .inl hx
  refine ⟨by simp [h.ln], by simp [h.lh], fun x hx => ?_, ?_, fun j' hj' => ?_, fun x hx => ?_, fun x hx => ?_, fun x hx t ht => ?_, fun x hx t ht hne0 h' hp hs => ?_⟩
  · rcases hw with ⟨_, e⟩ | ⟨w, h0, _, _, e⟩
    · simp only [e] at hx; exact h.freeLt x (by rw [hf]; simp [hx])
    · simp only [e] at hx
      rcases List.mem_cons.1 hx with rfl | hx
      · exact h0
      · exact h.freeLt x (by rw [hf]; simp [hx])
  · rcases hw with ⟨_, e⟩ | ⟨w, h0, h1, _, e⟩
    · simp only [e]; exact hnd.2
    · simp only [e]
      refine List.nodup_cons.2 ⟨fun h2 => hwf w h1 (by rw [hf]; simp [h2]), hnd.2⟩
  · show (g.has.set (gJ L g i) (i : Int)).getD j' default = -1 ∨ ∃ x, x < n ∧ (g.has.set (gJ L g i) (i : Int)).getD j' default = (x : Int) ∧ x ∉ f' ∧ 0 < (g.nx.set i (g.nx.getD i default + 1)).getD x default ∧ (L.getD x default).getD ((g.nx.set i (g.nx.getD i default + 1)).getD x default - 1) default = j'
    rw [hhas]
    by_cases e : j' = gJ L g i
    · rw [if_pos e]
      refine .inr ⟨i, hin, rfl, fun h2 => ?_, by rw [hnx, if_pos rfl]; omega, by rw [hnx, if_pos rfl, e]; rfl⟩
      rcases hmem i h2 with h3 | h3
      · exact hnd.1 h3
      · exact hwi i h3 rfl
    · rw [if_neg e]
      rcases h.hasR j' hj' with h3 | ⟨b, hb, h3, h4, h5, h6⟩
      · exact .inl h3
      · have hbi : b ≠ i := fun e' => h4 (by rw [e']; exact hi)
        refine .inr ⟨b, hb, h3, fun h2 => ?_, by rw [hnx, if_neg hbi]; exact h5, by rw [hnx, if_neg hbi]; exact h6⟩
        rcases hmem b h2 with h7 | h7
        · exact h4 (by rw [hf]; simp [h7])
        · exact e (h.inj hj' hj h3 h7)
  · show x ∈ f' ∨ ∃ j, j < n ∧ (g.has.set (gJ L g i) (i : Int)).getD j default = (x : Int)
    rcases h.cov x hx with h1 | ⟨j', hj', h1⟩
    · rw [hf] at h1
      rcases List.mem_cons.1 h1 with rfl | h1
      · exact .inr ⟨_, hj, by rw [hhas, if_pos rfl]⟩
      · refine .inl ?_
        rcases hw with ⟨_, e⟩ | ⟨w, _, _, _, e⟩
        · rw [e]; exact h1
        · rw [e]; simp [h1]
    · by_cases e : j' = gJ L g i
      · subst e
        rcases hw with ⟨h2, _⟩ | ⟨w, _, h2, _, e⟩
        · omega
        · have : w = x := by omega
          subst this
          rw [e]; simp
      · exact .inr ⟨j', hj', by rw [hhas, if_neg e]; exact h1⟩
  · show (g.nx.set i (g.nx.getD i default + 1)).getD x default ≤ n
    rw [hnx]
    split
    · omega
    · exact h.nxle x hx
  · show ∃ k, k < n ∧ (g.has.set (gJ L g i) (i : Int)).getD ((L.getD x default).getD t default) default = (k : Int) ∧ _
    have ht : t < (g.nx.set i (g.nx.getD i default + 1)).getD x default := ht
    rw [hnx] at ht
    rw [hhas]
    by_cases e : (L.getD x default).getD t default = gJ L g i
    · rw [if_pos e, e]
      refine ⟨i, hin, rfl, ?_⟩
      by_cases hxi : x = i
      · subst hxi; exact Nat.le_refl _
      · rw [if_neg hxi] at ht
        obtain ⟨k, hk, h1, h2⟩ := h.prop x hx t ht
        rw [e] at h1 h2
        rcases hw with ⟨h3, _⟩ | ⟨w, _, h3, h4, _⟩
        · omega
        · have : w = k := by omega
          subst this; omega
    · rw [if_neg e]
      by_cases hxi : x = i
      · subst hxi
        rw [if_pos rfl] at ht
        have : t < g.nx.getD x default := by
          rcases Nat.lt_or_ge t (g.nx.getD x default) with h' | h'
          · exact h'
          · have : t = g.nx.getD x default := by omega
            subst this; exact absurd rfl e
        exact h.prop x hx t this
      · rw [if_neg hxi] at ht
        exact h.prop x hx t ht
  · have ht : t < (g.nx.set i (g.nx.getD i default + 1)).getD x default := ht
    have hne : (g.has.set (gJ L g i) (i : Int)).getD ((L.getD x default).getD t default) default ≠ (x : Int) := hne0
    clear hne0
    rw [hnx] at ht
    rw [hhas] at hne
    by_cases e : (L.getD x default).getD t default = gJ L g i
    · rw [if_pos e] at hne
      have hxi : x ≠ i := fun e' => hne (by rw [e'])
      rw [if_neg hxi] at ht
      rw [e]
      by_cases hx2 : g.has.getD (gJ L g i) default = (x : Int)
      · -- x was put away for i
        rcases hw with ⟨h3, _⟩ | ⟨w, _, h3, h4, _⟩
        · omega
        · have : w = x := by omega
          subst this
          intro he
          have hst := hs i w hin hx
          rw [he] at hst
          have h5 : ¬ rk L i (gJ L g i) < rk L i (h' i) := fun h5 => hst ⟨h5, h4⟩
          have hi' := hp.lt i hin
          have e1 : rk L i (gJ L g i) = g.nx.getD i default := hL.rk_get hin hlt
          have e2 : h' i ≠ gJ L g i := fun e3 => hxi (hp.inj w i hx hin (by rw [he, e3]))
          have h6 : rk L i (h' i) ≠ rk L i (gJ L g i) := fun e3 => e2 (hL.rk_inj hin hi' hj e3)
          have h7 := h.imp i hin (rk L i (h' i)) (by omega) (by rw [hL.get_rk hin hi']; exact hno _ hi') h' hp hs
          rw [hL.get_rk hin hi'] at h7
          exact h7 rfl
      · have := h.imp x hx t ht (by rw [e]; exact hx2) h' hp hs
        rw [e] at this; exact this
    · rw [if_neg e] at hne
      by_cases hxi : x = i
      · subst hxi
        rw [if_pos rfl] at ht
        have : t < g.nx.getD x default := by
          rcases Nat.lt_or_ge t (g.nx.getD x default) with h' | h'
          · exact h'
          · have : t = g.nx.getD x default := by omega
            subst this; exact absurd rfl e
        exact h.imp x hx t this hne h' hp hs
      · rw [if_neg hxi] at ht
        exact h.imp x hx t ht hne h' hp hs
/-- One who asks, and is not taken. -/
theorem GI.keep {g : GS} {i w : Nat} {rest : List Nat} (hL : Prefs n L) (hR : Prefs n R) (h : GI n L R g) (hf : g.free = i :: rest) (hw : w < n) (hh : g.has.getD (gJ L g i) default = (w : Int))
    (hlt2 : ¬ rk R (gJ L g i) i < rk R (gJ L g i) w) : GI n L R ⟨i :: rest, g.nx.set i (g.nx.getD i default + 1), g.has⟩ := by
  have hi : i ∈ g.free := by rw [hf]; simp
  have hin := h.freeLt i hi
  have hlt := h.nx_lt hL hi
  have hj : gJ L g i < n := hL.get_lt hin hlt
  have hnx : ∀ k, (g.nx.set i (g.nx.getD i default + 1)).getD k default = if k = i then g.nx.getD i default + 1 else g.nx.getD k default := fun k => getD_set _ _ _ _ (by rw [h.ln]; exact hin)
  have hwf : w ∉ g.free := by
    rcases h.hasR _ hj with h3 | ⟨b, _, h3, h4, _⟩
    · omega
    · have : b = w := by omega
      subst this; exact h4
  have hwi : w ≠ i := fun e => hwf (by rw [e]; exact hi)
  refine ⟨by simp [h.ln], h.lh, fun x hx => h.freeLt x (by rw [hf]; exact hx), by have := h.nodup; rw [hf] at this; exact this, fun j' hj' => ?_, fun x hx => by have := h.cov x hx; rw [hf] at this; exact this, fun x hx => ?_, fun x hx t ht => ?_, fun x hx t ht hne0 h' hp hs => ?_⟩
  · rcases h.hasR j' hj' with h3 | ⟨b, hb, h3, h4, h5, h6⟩
    · exact .inl h3
    · have hbi : b ≠ i := fun e' => h4 (by rw [e']; exact hi)
      refine .inr ⟨b, hb, h3, by rw [hf] at h4; exact h4, ?_, ?_⟩
      · show 0 < (g.nx.set i (g.nx.getD i default + 1)).getD b default
        rw [hnx, if_neg hbi]; exact h5
      · show (L.getD b default).getD ((g.nx.set i (g.nx.getD i default + 1)).getD b default - 1) default = j'
        rw [hnx, if_neg hbi]; exact h6
  · show (g.nx.set i (g.nx.getD i default + 1)).getD x default ≤ n
    rw [hnx]
    split
    · omega
    · exact h.nxle x hx
  · have ht : t < (g.nx.set i (g.nx.getD i default + 1)).getD x default := ht
    show ∃ k, k < n ∧ g.has.getD ((L.getD x default).getD t default) default = (k : Int) ∧ _
    rw [hnx] at ht
    by_cases hxi : x = i
    · subst hxi
      rw [if_pos rfl] at ht
      by_cases h1 : t < g.nx.getD x default
      · exact h.prop x hx t h1
      · have : t = g.nx.getD x default := by omega
        subst this
        exact ⟨w, hw, hh, by show rk R (gJ L g x) w ≤ rk R (gJ L g x) x; omega⟩
    · rw [if_neg hxi] at ht
      exact h.prop x hx t ht
  · have ht : t < (g.nx.set i (g.nx.getD i default + 1)).getD x default := ht
    have hne : g.has.getD ((L.getD x default).getD t default) default ≠ (x : Int) := hne0
    clear hne0
    rw [hnx] at ht
    by_cases hxi : x = i
    · subst hxi
      rw [if_pos rfl] at ht
      by_cases h1 : t < g.nx.getD x default
      · exact h.imp x hx t h1 hne h' hp hs
      · have : t = g.nx.getD x default := by omega
        subst this
        show h' x ≠ gJ L g x
        intro he
        have hst := hs w x hw hx
        rw [he] at hst
        have hw' := hp.lt w hw
        have e2 : h' w ≠ gJ L g x := fun e3 => hwi (hp.inj w x hw hx (by rw [he, e3]))
        have h4 : rk R (gJ L g x) w ≠ rk R (gJ L g x) x := fun e3 => hwi (hR.rk_inj hj hw hx e3)
        have h5 : ¬ rk L w (gJ L g x) < rk L w (h' w) := fun h5 => hst ⟨h5, by omega⟩
        have h6 : rk L w (h' w) ≠ rk L w (gJ L g x) := fun e3 => e2 (hL.rk_inj hw hw' hj e3)
        -- w has asked h' w before
        rcases h.hasR _ hj with h3 | ⟨b, _, h3, _, h7, h8⟩
        · omega
        · have : b = w := by omega
          subst this
          have e1 : rk L b (gJ L g x) = g.nx.getD b default - 1 := by
            rw [← h8]
            exact hL.rk_get hw (by have := h.nxle b hw; omega)
          have h9 := h.imp b hw (rk L b (h' b)) (by omega) (by
            rw [hL.get_rk hw hw']
            intro e3
            exact e2 (h.inj hw' hj e3 hh)) h' hp hs
          rw [hL.get_rk hw hw'] at h9
          exact h9 rfl
    · rw [if_neg hxi] at ht
      exact h.imp x hx t ht hne h' hp hs
theorem GI.step {g : GS} (hL : Prefs n L) (hR : Prefs n R) (h : GI n L R g) : GI n L R (gStep L R g) := by
  obtain ⟨free, nx, has⟩ := g
  cases free with
  | nil => exact h
  | cons i rest =>
    have hin := h.freeLt i (by simp)
    have hj : gJ L ⟨i :: rest, nx, has⟩ i < n := hL.get_lt hin (h.nx_lt hL (by simp))
    show GI n L R (if _ then _ else if _ then _ else _)
    split
    · rename_i h0
      refine h.take hL hR rfl _ (.inl ⟨?_, rfl⟩)
      rcases h.hasR _ hj with h3 | ⟨b, _, h3, _⟩
      · exact h3
      · simp only at h0 h3; omega
    · rename_i h0
      rcases h.hasR _ hj with h3 | ⟨b, hb, h3, _⟩
      · simp only at h0 h3; omega
      · have e : (has.getD (gJ L ⟨i :: rest, nx, has⟩ i) default).toNat = b := by simp only at h3; rw [h3]; rfl
        simp only [e]
        split
        · rename_i h1
          exact h.take hL hR rfl _ (.inr ⟨b, hb, h3, h1, rfl⟩)
        · rename_i h1
          exact h.keep hL hR rfl hb h3 h1
theorem GI.start (n : Nat) (L R : List (List Nat)) : GI n L R (gStart n) := by
  have hz : ∀ i, (List.replicate n 0).getD i default = 0 := fun i => by
    rw [List.getD_eq_getElem?_getD, List.getElem?_replicate]; split <;> rfl
  refine ⟨by simp [gStart], by simp [gStart], fun i hi => by simpa [gStart] using hi, List.nodup_range, fun j hj => .inl ?_, fun i hi => .inl (by simpa [gStart] using hi), fun i hi => ?_, fun i hi t ht => ?_, fun i hi t ht => ?_⟩
  · simp only [gStart]
    rw [List.getD_eq_getElem?_getD, List.getElem?_replicate, if_pos hj]; rfl
  · simp only [gStart, hz]; omega
  · simp only [gStart, hz] at ht; omega
  · simp only [gStart, hz] at ht; omega
/-- How much has been asked. -/
def asked (g : GS) : Nat := g.nx.sum
end
end Go.Proofs

namespace Go.Proofs
open Go.Aw
/-- Whom each on the right has, and whom one has asked. -/
structure KS where
  has : List Int
  seen : Nat
def tryL (rec : Nat → KS → Bool × KS) (i : Nat) : List Nat → KS → Bool × KS
  | [], s => (false, s)
  | j :: js, s =>
    if s.seen.testBit j then tryL rec i js s
    else if s.has.getD j default < 0 then (true, ⟨s.has.set j i, s.seen ||| 2 ^ j⟩)
    else match rec (s.has.getD j default).toNat ⟨s.has, s.seen ||| 2 ^ j⟩ with
      | (true, s2) => (true, ⟨s2.has.set j i, s2.seen⟩)
      | (false, s2) => tryL rec i js s2
def tryF (next : List Nat) : Nat → Nat → KS → Bool × KS
  | 0 => fun _ s => (false, s)
  | m + 1 => fun i s => tryL (tryF next m) i (pts (next.getD i default)) s
def kuhnI (next : List Nat) (right : Nat) (has : List Int) (i : Nat) : List Int := (tryF next (right + 1) i ⟨has, 0⟩).2.has
def kuhn (left right : Nat) (l : List (Nat × Nat)) : List Int := (List.range left).foldl (kuhnI (outS (max left 1) l) right) (List.replicate right (-1))
/-- Lines between two sides. -/
def Sides (left right : Nat) (l : List (Nat × Nat)) : Prop := ∀ p ∈ l, p.1 < left ∧ p.2 < right
/-- A way along which one more is paired. -/
inductive Aug (l : List (Nat × Nat)) (has : List Int) : Nat → List Int → Prop
  | free {i j : Nat} (h : (i, j) ∈ l) (hf : has.getD j default < 0) : Aug l has i (has.set j i)
  | via {i j x : Nat} {has' : List Int} (h : (i, j) ∈ l) (hx : has.getD j default = (x : Int)) (ha : Aug l has x has') (hj : has'.getD j default = has.getD j default) : Aug l has i (has'.set j i)
theorem count_set (s : List Int) (j : Nat) (hj : j < s.length) (v y : Int) : (s.set j v).count y + (if s.getD j default = y then 1 else 0) = s.count y + (if v = y then 1 else 0) := by
  induction s generalizing j with
  | nil => simp at hj
  | cons x s ih =>
    cases j with
    | zero => simp only [List.set_cons_zero, List.getD_cons_zero, List.count_cons]; by_cases h1 : x = y <;> by_cases h2 : v = y <;> simp [h1, h2]
    | succ j =>
      have := ih j (by simpa using hj)
      simp only [List.set_cons_succ, List.getD_cons_succ, List.count_cons] at this ⊢
      omega
theorem Aug.len {l : List (Nat × Nat)} {has has' : List Int} {i : Nat} (h : Aug l has i has') : has'.length = has.length := by
  induction h with
  | free => simp
  | via _ _ _ _ ih => simpa using ih
section
variable {left right : Nat} {l : List (Nat × Nat)} (hl : Sides left right l)
include hl
theorem Aug.count {has has' : List Int} {i : Nat} (hh : has.length = right) (hv : ∀ j, j < right → has.getD j default < 0 → has.getD j default = -1) (h : Aug l has i has') (y : Nat) : has'.count (y : Int) = has.count (y : Int) + (if i = y then 1 else 0) := by
  induction h with
  | free h hf =>
    rename_i i j
    have hj := (hl _ h).2
    have := count_set has j (by rw [hh]; exact hj) (i : Int) (y : Int)
    rw [hv j hj hf, if_neg (by omega)] at this
    rw [Nat.add_zero] at this
    rw [this]
    congr 1
    by_cases e : i = y <;> simp [e]
    omega
  | via h hx ha hj ih =>
    rename_i i j x h'
    have hjr := (hl _ h).2
    have := count_set h' j (by rw [ha.len, hh]; exact hjr) (i : Int) (y : Int)
    rw [hj, hx, ih] at this
    have e1 : ((x : Int) = (y : Int)) ↔ x = y := Int.ofNat_inj
    have e2 : ((i : Int) = (y : Int)) ↔ i = y := Int.ofNat_inj
    simp only [e1, e2] at this
    omega
/-- Right ends of lines. -/
structure HasOK (right left : Nat) (l : List (Nat × Nat)) (has : List Int) : Prop where
  len : has.length = right
  val : ∀ j, j < right → has.getD j default = -1 ∨ ∃ x, x < left ∧ has.getD j default = (x : Int) ∧ (x, j) ∈ l
theorem HasOK.set {has : List Int} (h : HasOK right left l has) {i j : Nat} (hij : (i, j) ∈ l) : HasOK right left l (has.set j i) := by
  have hj := (hl _ hij).2
  refine ⟨by simp [h.len], fun k hk => ?_⟩
  rw [getD_set _ _ _ _ (by rw [h.len]; exact hj)]
  split
  · rename_i e; subst e; exact .inr ⟨i, (hl _ hij).1, rfl, hij⟩
  · exact h.val k hk
theorem Aug.ok {has has' : List Int} {i : Nat} (h0 : HasOK right left l has) (h : Aug l has i has') : HasOK right left l has' := by
  induction h with
  | free h hf => exact h0.set hl h
  | via h hx ha hj ih => exact ih.set hl h
omit hl in
theorem HasOK.nat {has : List Int} (h : HasOK right left l has) {j : Nat} (hj : j < right) (hn : ¬ has.getD j default < 0) : ∃ x, x < left ∧ has.getD j default = (x : Int) ∧ (x, j) ∈ l := by
  rcases h.val j hj with h | h
  · omega
  · exact h
omit hl in
theorem HasOK.neg {has : List Int} (h : HasOK right left l has) {j : Nat} (hj : j < right) (hn : has.getD j default < 0) : has.getD j default = -1 := by
  rcases h.val j hj with h | ⟨x, _, h, _⟩
  · exact h
  · omega
/-- How many on the right were not asked. -/
def unseen (right seen : Nat) : Nat := (List.range right).countP fun j => !seen.testBit j
omit hl in
theorem unseen_lt {right seen j : Nat} (hj : j < right) (h : seen.testBit j = false) : unseen right (seen ||| 2 ^ j) < unseen right seen := by
  refine (countP_le (List.range right) (fun x _ hx => ?_)).2 ⟨j, by simpa using hj, ?_, by simp [h]⟩
  · rw [Nat.testBit_or] at hx
    cases h1 : seen.testBit x <;> simp [h1] at hx ⊢
  · rw [Nat.testBit_or, Nat.testBit_two_pow_self]; simp
omit hl in
theorem unseen_le {right s t : Nat} (h : ∀ j, s.testBit j = true → t.testBit j = true) : unseen right t ≤ unseen right s := by
  refine (countP_le (List.range right) (fun x _ hx => ?_)).1
  cases h1 : s.testBit x with
  | true => rw [h x h1] at hx; cases hx
  | false => rfl
/-- What one who asks ends with. -/
structure TrySpec (right : Nat) (l : List (Nat × Nat)) (i : Nat) (js : List Nat) (s : KS) (b : Bool) (s' : KS) : Prop where
  yes : b = true → Aug l s.has i s'.has ∧ ∀ j, s.seen.testBit j = true → s'.has.getD j default = s.has.getD j default
  no : b = false → s'.has = s.has ∧ (∀ j ∈ js, s'.seen.testBit j = true) ∧ ∀ j, s'.seen.testBit j = true → s.seen.testBit j = true ∨ (j < right ∧ ∃ x : Nat, s.has.getD j default = (x : Int) ∧ ∀ k, (x, k) ∈ l → s'.seen.testBit k = true)
  mono : ∀ j, s.seen.testBit j = true → s'.seen.testBit j = true
  lt : s.seen < 2 ^ 64 → s'.seen < 2 ^ 64
theorem tryF_spec (hr : right ≤ 64) (hg : ∀ i j, j ∈ pts ((outS (max left 1) l).getD i default) ↔ (i, j) ∈ l) : ∀ (m i : Nat) (s : KS), HasOK right left l s.has → unseen right s.seen < m →
    TrySpec right l i (pts ((outS (max left 1) l).getD i default)) s (tryF (outS (max left 1) l) m i s).1 (tryF (outS (max left 1) l) m i s).2 := by
  intro m
  induction m with
  | zero => intro i s _ h; omega
  | succ m ih =>
    intro i s hs hu
    show TrySpec right l i _ s (tryL _ i _ s).1 (tryL _ i _ s).2
    have key : ∀ (js : List Nat) (s : KS), (∀ j ∈ js, (i, j) ∈ l) → HasOK right left l s.has → unseen right s.seen < m + 1 → TrySpec right l i js s (tryL (tryF (outS (max left 1) l) m) i js s).1 (tryL (tryF (outS (max left 1) l) m) i js s).2 := by
      intro js
      induction js with
      | nil =>
        intro s _ _ _
        refine ⟨fun h => ?_, fun _ => ⟨rfl, fun j hj => ?_, fun j hj => .inl hj⟩, fun j hj => hj, fun h => h⟩
        · cases h
        · cases hj
      | cons j js ihj =>
        intro s hjs hs hu
        have hij := hjs j (by simp)
        have hj : j < right := (hl _ hij).2
        unfold tryL
        by_cases hse : s.seen.testBit j = true
        · rw [if_pos hse]
          have h := ihj s (fun k hk => hjs k (by simp [hk])) hs hu
          refine ⟨h.yes, fun hb => ?_, h.mono, h.lt⟩
          obtain ⟨h1, h2, h3⟩ := h.no hb
          refine ⟨h1, fun k hk => ?_, h3⟩
          rcases List.mem_cons.1 hk with rfl | hk
          · exact h.mono _ hse
          · exact h2 k hk
        · rw [if_neg hse]
          have hsf : s.seen.testBit j = false := by simpa using hse
          have hmono1 : ∀ k, s.seen.testBit k = true → (s.seen ||| 2 ^ j).testBit k = true := fun k hk => by rw [Nat.testBit_or, hk]; rfl
          have hlt1 : s.seen < 2 ^ 64 → (s.seen ||| 2 ^ j) < 2 ^ 64 := fun h => Nat.or_lt_two_pow h (Nat.pow_lt_pow_right (by omega) (by omega))
          have hne : ∀ k, s.seen.testBit k = true → k ≠ j := fun k hk e => by subst e; rw [hsf] at hk; cases hk
          by_cases hf : s.has.getD j default < 0
          · rw [if_pos hf]
            refine ⟨fun _ => ⟨.free hij hf, fun k hk => ?_⟩, fun h => ?_, hmono1, hlt1⟩
            · show (s.has.set j (i : Int)).getD k default = _
              rw [getD_set _ _ _ _ (by rw [hs.len]; exact hj), if_neg (hne k hk)]
            · cases h
          · rw [if_neg hf]
            obtain ⟨x, hx, hxe, _⟩ := hs.nat hj hf
            have hu1 := unseen_lt hj hsf
            have h := ih x ⟨s.has, s.seen ||| 2 ^ j⟩ hs (by show unseen right (s.seen ||| 2 ^ j) < m; omega)
            rw [hxe, Int.toNat_natCast]
            generalize hrr : tryF (outS (max left 1) l) m x ⟨s.has, s.seen ||| 2 ^ j⟩ = r at h
            obtain ⟨b, s2⟩ := r
            cases b with
            | true =>
              obtain ⟨h1, h2⟩ := h.yes rfl
              have hj2 : s2.has.getD j default = s.has.getD j default := h2 j (by rw [Nat.testBit_or, Nat.testBit_two_pow_self]; simp)
              refine ⟨fun _ => ⟨.via hij hxe h1 hj2, fun k hk => ?_⟩, fun h => ?_, fun k hk => h.mono k (hmono1 k hk), fun h' => h.lt (hlt1 h')⟩
              · show (s2.has.set j (i : Int)).getD k default = _
                rw [getD_set _ _ _ _ (by rw [h1.len]; show j < s.has.length; rw [hs.len]; exact hj), if_neg (hne k hk)]
                exact h2 k (hmono1 k hk)
              · cases h
            | false =>
              obtain ⟨h1, h2, h3⟩ := h.no rfl
              have hs2 : HasOK right left l s2.has := by rw [h1]; exact hs
              have h' := ihj s2 (fun k hk => hjs k (by simp [hk])) hs2 (by
                have h9 : unseen right s2.seen ≤ unseen right (s.seen ||| 2 ^ j) := unseen_le (right := right) h.mono
                omega)
              simp only at h1
              refine ⟨fun hb => ?_, fun hb => ?_, fun k hk => h'.mono k (h.mono k (hmono1 k hk)), fun hh => h'.lt (h.lt (hlt1 hh))⟩
              · obtain ⟨h4, h5⟩ := h'.yes hb
                rw [h1] at h4 h5
                exact ⟨h4, fun k hk => h5 k (h.mono k (hmono1 k hk))⟩
              · obtain ⟨h4, h5, h6⟩ := h'.no hb
                refine ⟨h4.trans h1, fun k hk => ?_, fun k hk => ?_⟩
                · rcases List.mem_cons.1 hk with rfl | hk
                  · exact h'.mono _ (h.mono _ (by show (s.seen ||| 2 ^ k).testBit k = true; rw [Nat.testBit_or, Nat.testBit_two_pow_self]; simp))
                  · exact h5 k hk
                · rcases h6 k hk with h7 | ⟨h0, y, h7, h8⟩
                  · rcases h3 k h7 with h9 | ⟨h0, y, h9, h10⟩
                    · simp only at h9
                      rw [Nat.testBit_or, Bool.or_eq_true, two_pow_bit] at h9
                      rcases h9 with h9 | rfl
                      · exact .inl h9
                      · refine .inr ⟨hj, x, hxe, fun z hz => h'.mono z (h2 z ((hg x z).2 hz))⟩
                    · exact .inr ⟨h0, y, h9, fun z hz => h'.mono z (h10 z hz)⟩
                  · exact .inr ⟨h0, y, by rw [h1] at h7; exact h7, h8⟩
    exact key _ s (fun j hj => (hg i j).1 hj) hs hu
/-- What holds of pairs: those who failed, and what is closed. -/
structure KI (left right : Nat) (l : List (Nat × Nat)) (k : Nat) (has : List Int) (F D : Nat → Prop) : Prop where
  ok : HasOK right left l has
  cnt : ∀ y : Nat, (y < k ∧ ¬ F y → has.count (y : Int) = 1) ∧ (¬ (y < k ∧ ¬ F y) → has.count (y : Int) = 0)
  fk : ∀ f, F f → f < k
  fD : ∀ f, F f → ∀ j, (f, j) ∈ l → D j
  dD : ∀ j, D j → j < right ∧ ∃ x : Nat, has.getD j default = (x : Int) ∧ ∀ k, (x, k) ∈ l → D k
omit hl in
theorem Aug.dead {D : Nat → Prop} {has : List Int} (hD : ∀ j, D j → ∃ x : Nat, has.getD j default = (x : Int) ∧ ∀ k, (x, k) ∈ l → D k) {i : Nat} {has' : List Int} (h : Aug l has i has') :
    ¬ (∀ j, (i, j) ∈ l → D j) ∧ ∀ j, D j → has'.getD j default = has.getD j default := by
  induction h with
  | free h hf =>
    rename_i i j
    have hj : ¬ D j := fun hd => by
      obtain ⟨x, hx, _⟩ := hD j hd
      omega
    refine ⟨fun h' => hj (h' j h), fun k hk => ?_⟩
    rw [set_getD, if_neg]
    rintro ⟨rfl, _⟩
    exact hj hk
  | via h hx ha hje ih =>
    rename_i i j x h'
    have hj : ¬ D j := fun hd => by
      obtain ⟨y, hy, hy2⟩ := hD j hd
      have : y = x := by omega
      subst this
      exact ih.1 hy2
    refine ⟨fun h' => hj (h' j h), fun k hk => ?_⟩
    rw [set_getD, if_neg]
    · exact ih.2 k hk
    · rintro ⟨rfl, _⟩
      exact hj hk
theorem KI.step (hr : right ≤ 64) (hg : ∀ i j, j ∈ pts ((outS (max left 1) l).getD i default) ↔ (i, j) ∈ l) {k : Nat} {has : List Int} {F D : Nat → Prop} (h : KI left right l k has F D) : ∃ F' D', KI left right l (k + 1) (kuhnI (outS (max left 1) l) right has k) F' D' := by
  have hu : unseen right 0 < right + 1 := by
    have := List.countP_le_length (p := fun j => !(0 : Nat).testBit j) (l := List.range right)
    simp only [List.length_range] at this
    unfold unseen; omega
  have ht := tryF_spec hl hr hg (right + 1) k ⟨has, 0⟩ h.ok hu
  unfold kuhnI
  generalize tryF (outS (max left 1) l) (right + 1) k ⟨has, 0⟩ = r at ht
  obtain ⟨b, s'⟩ := r
  cases b with
  | true =>
    obtain ⟨h1, _⟩ := ht.yes rfl
    simp only at h1
    have hc := h1.count hl h.ok.len (fun j hj hn => h.ok.neg hj hn)
    have hd := h1.dead (D := D) (fun j hj => (h.dD j hj).2)
    have hFk : ¬ F k := fun hf => by have := h.fk k hf; omega
    refine ⟨F, D, h1.ok hl h.ok, fun y => ?_, fun f hf => by have := h.fk f hf; omega, h.fD, fun j hj => ⟨(h.dD j hj).1, ?_⟩⟩
    · have hy := h.cnt y
      simp only
      rw [hc y]
      constructor
      · rintro ⟨h2, h3⟩
        by_cases e : k = y
        · subst e; rw [hy.2 (fun h' => by omega), if_pos rfl]
        · rw [hy.1 ⟨by omega, h3⟩, if_neg e]
      · intro h2
        have e : ¬ k = y := fun e => h2 (by subst e; exact ⟨by omega, hFk⟩)
        rw [if_neg e, hy.2 (fun h' => h2 ⟨by omega, h'.2⟩)]
    · obtain ⟨x, hx, hx2⟩ := (h.dD j hj).2
      exact ⟨x, by rw [hd.2 j hj]; exact hx, hx2⟩
  | false =>
    obtain ⟨h1, h2, h3⟩ := ht.no rfl
    simp only at h1
    refine ⟨fun f => F f ∨ f = k, fun j => D j ∨ s'.seen.testBit j = true, ?_⟩
    simp only
    rw [h1]
    refine ⟨h.ok, fun y => ?_, fun f hf => ?_, fun f hf j hj => ?_, fun j hj => ?_⟩
    · have hy := h.cnt y
      constructor
      · rintro ⟨h4, h5⟩
        exact hy.1 ⟨by have : y ≠ k := fun e => h5 (.inr e); omega, fun h' => h5 (.inl h')⟩
      · intro h4
        refine hy.2 fun h5 => h4 ⟨by omega, fun h6 => h6.elim h5.2 (fun e => by omega)⟩
    · rcases hf with hf | rfl
      · have := h.fk f hf; omega
      · omega
    · rcases hf with hf | rfl
      · exact .inl (h.fD f hf j hj)
      · exact .inr (h2 j ((hg _ j).2 hj))
    · rcases hj with hj | hj
      · obtain ⟨h4, x, h5, h6⟩ := h.dD j hj
        exact ⟨h4, x, h5, fun z hz => .inl (h6 z hz)⟩
      · rcases h3 j hj with h4 | ⟨h0, x, h4, h5⟩
        · simp at h4
        · exact ⟨h0, x, h4, fun z hz => .inr (h5 z hz)⟩
end
end Go.Proofs

namespace Go.Proofs
open Go.Aw
/-- Pairs of lines, nobody in two. -/
structure Mtch (l M : List (Nat × Nat)) : Prop where
  sub : ∀ p ∈ M, p ∈ l
  fst : (M.map Prod.fst).Nodup
  snd : (M.map Prod.snd).Nodup
/-- All lines have one of them. -/
def Cov (l : List (Nat × Nat)) (A B : List Nat) : Prop := ∀ p ∈ l, p.1 ∈ A ∨ p.2 ∈ B
theorem nodup_map_filter {α β : Type} {f : α → β} {l : List α} (h : (l.map f).Nodup) (p : α → Bool) : ((l.filter p).map f).Nodup := h.sublist (List.Sublist.map f List.filter_sublist)
theorem weak {M : List (Nat × Nat)} {A B : List Nat} (h1 : (M.map Prod.fst).Nodup) (h2 : (M.map Prod.snd).Nodup) (h : Cov M A B) : M.length ≤ A.length + B.length := by
  have e : M.length = (M.filter fun p => decide (p.1 ∈ A)).length + (M.filter fun p => !decide (p.1 ∈ A)).length := by
    have := List.length_eq_countP_add_countP (fun p : Nat × Nat => decide (p.1 ∈ A)) (l := M)
    rw [List.countP_eq_length_filter, List.countP_eq_length_filter] at this
    rw [this]; congr 2
    simp
  have a := pig (M := A) (nodup_map_filter h1 fun p => decide (p.1 ∈ A)) (fun x hx => by
    obtain ⟨p, hp, rfl⟩ := List.mem_map.1 hx
    simpa using (List.mem_filter.1 hp).2)
  have b := pig (M := B) (nodup_map_filter h2 fun p => !decide (p.1 ∈ A)) (fun x hx => by
    obtain ⟨p, hp, rfl⟩ := List.mem_map.1 hx
    obtain ⟨h3, h4⟩ := List.mem_filter.1 hp
    have h5 : p.1 ∉ A := by simpa using h4
    exact (h p h3).resolve_left h5)
  rw [List.length_map] at a b
  omega
theorem Mtch.weak {l M : List (Nat × Nat)} {A B : List Nat} (h : Mtch l M) (hc : Cov l A B) : M.length ≤ A.length + B.length := Go.Proofs.weak h.fst h.snd fun p hp => hc p (h.sub p hp)
/-- As many pairs as there are at most. -/
def MN (l : List (Nat × Nat)) (m : Nat) : Prop := (∃ M, Mtch l M ∧ M.length = m) ∧ ∃ A B, Cov l A B ∧ A.length + B.length = m
theorem MN.le {l l' : List (Nat × Nat)} {m m' : Nat} (h : MN l m) (h' : MN l' m') (hs : ∀ p ∈ l, p ∈ l') : m ≤ m' := by
  obtain ⟨⟨M, h1, rfl⟩, _⟩ := h
  obtain ⟨_, A, B, h2, rfl⟩ := h'
  exact h1.weak fun p hp => h2 p (hs p hp)
theorem MN.flip {l l' : List (Nat × Nat)} {m : Nat} (h : MN l m) (hf : ∀ a b, (a, b) ∈ l' ↔ (b, a) ∈ l) : MN l' m := by
  obtain ⟨⟨M, h1, rfl⟩, A, B, h2, e⟩ := h
  refine ⟨⟨M.map Go.Proofs.flip, ⟨fun p hp => ?_, ?_, ?_⟩, by simp⟩, B, A, fun p hp => ?_, by omega⟩
  · obtain ⟨q, hq, rfl⟩ := List.mem_map.1 hp
    exact (hf _ _).2 (h1.sub q hq)
  · rw [List.map_map]; exact h1.snd
  · rw [List.map_map]; exact h1.fst
  · exact (h2 _ ((hf p.1 p.2).1 hp)).symm
theorem MN.more {l l' : List (Nat × Nat)} {m m' : Nat} (h : MN l m) (h' : MN l' m') {e : Nat × Nat} (hs : ∀ p, p ∈ l' ↔ p ∈ l ∨ p = e) : m' = m ∨ m' = m + 1 := by
  have h1 := h.le h' fun p hp => (hs p).2 (.inl hp)
  obtain ⟨_, A, B, h2, rfl⟩ := h
  obtain ⟨⟨M, h3, rfl⟩, _⟩ := h'
  have := h3.weak (A := e.1 :: A) (B := B) fun p hp => by
    rcases (hs p).1 hp with h4 | rfl
    · exact (h2 p h4).imp (fun h => by simp [h]) id
    · exact .inl (by simp)
  simp only [List.length_cons] at this
  omega
/-- Those on the right who have one. -/
def metR (has : List Int) : List Nat := (List.range has.length).filter fun j => decide (0 ≤ has.getD j default)
def mostK (has : List Int) : Nat := (metR has).length
def pairL (has : List Int) : List (Nat × Nat) := (metR has).map fun j => ((has.getD j default).toNat, j)
theorem mem_metR {has : List Int} {j : Nat} : j ∈ metR has ↔ j < has.length ∧ 0 ≤ has.getD j default := by simp [metR]
section
variable {left right : Nat} {l : List (Nat × Nat)} (hl : Sides left right l)
theorem outS_sides (hl : Sides left right l) (hr : right ≤ 64) (i j : Nat) : j ∈ pts ((outS (max left 1) l).getD i default) ↔ (i, j) ∈ l := by
  rw [pts_mem, outS_bit]
  exact ⟨fun h => h.2.2, fun h => by have := hl _ h; exact ⟨by omega, by omega, h⟩⟩
include hl in
theorem kuhn_spec (hr : right ≤ 64) : ∃ F D, KI left right l left (kuhn left right l) F D := by
  have : ∀ k, ∃ F D, KI left right l k ((List.range k).foldl (kuhnI (outS (max left 1) l) right) (List.replicate right (-1))) F D := by
    intro k
    induction k with
    | zero =>
      refine ⟨fun _ => False, fun _ => False, ⟨⟨by simp, fun j hj => .inl ?_⟩, fun y => ⟨fun h => by omega, fun _ => ?_⟩, fun f hf => hf.elim, fun f hf => hf.elim, fun j hj => hj.elim⟩⟩
      · show (List.replicate right (-1 : Int)).getD j default = -1
        rw [List.getD_eq_getElem?_getD, List.getElem?_replicate, if_pos hj]; rfl
      · show (List.replicate right (-1 : Int)).count (y : Int) = 0
        rw [List.count_eq_zero]
        intro h
        have := (List.mem_replicate.1 h).2
        omega
    | succ k ih =>
      obtain ⟨F, D, h⟩ := ih
      rw [range_foldl]
      exact h.step hl hr (outS_sides hl hr)
  exact this left
theorem count_two {s : List Int} {j k : Nat} {y : Int} (hjk : j ≠ k) (hj : s[j]? = some y) (hk : s[k]? = some y) : 2 ≤ s.count y := by
  induction s generalizing j k with
  | nil => simp at hj
  | cons x s ih =>
    cases j with
    | zero =>
      cases k with
      | zero => exact absurd rfl hjk
      | succ k =>
        simp at hj hk
        have : y ∈ s := List.mem_of_getElem? hk
        have := List.count_pos_iff.2 this
        rw [List.count_cons, hj]; simp; omega
    | succ j =>
      cases k with
      | zero =>
        simp at hj hk
        have : y ∈ s := List.mem_of_getElem? hj
        have := List.count_pos_iff.2 this
        rw [List.count_cons, hk]; simp; omega
      | succ k =>
        have := ih (j := j) (k := k) (by omega) (by simpa using hj) (by simpa using hk)
        rw [List.count_cons]; omega
theorem get_some {s : List Int} {j : Nat} (hj : j < s.length) : s[j]? = some (s.getD j default) := by
  rw [List.getD_eq_getElem?_getD, List.getElem?_eq_getElem hj]; rfl
/-- What holds of pairs in the end. -/
structure KE (left right : Nat) (l : List (Nat × Nat)) (has : List Int) : Prop where
  ok : HasOK right left l has
  inj : ∀ j k (y : Nat), j < right → k < right → has.getD j default = (y : Int) → has.getD k default = (y : Int) → j = k
  free : ∃ D : Nat → Prop, (∀ j, D j → j < right ∧ ∃ x : Nat, has.getD j default = (x : Int) ∧ ∀ k, (x, k) ∈ l → D k) ∧ ∀ f, f < left → (f : Int) ∉ has → ∀ j, (f, j) ∈ l → D j
include hl in
theorem kuhn_end (hr : right ≤ 64) : KE left right l (kuhn left right l) := by
  obtain ⟨F, D, h⟩ := kuhn_spec hl hr
  refine ⟨h.ok, fun j k y hj hk h1 h2 => ?_, D, h.dD, fun f hf hno j hj => ?_⟩
  · refine Classical.byContradiction fun hne => ?_
    have h3 := count_two hne (by rw [get_some (by rw [h.ok.len]; exact hj), h1]) (by rw [get_some (by rw [h.ok.len]; exact hk), h2])
    have h4 := h.cnt y
    by_cases h5 : y < left ∧ ¬ F y
    · have := h4.1 h5; omega
    · have := h4.2 h5; omega
  · refine h.fD f (Classical.byContradiction fun hF => ?_) j hj
    have := (h.cnt f).1 ⟨hf, hF⟩
    exact hno (List.count_pos_iff.1 (by omega))
theorem HasOK.mem_iff {has : List Int} (h : HasOK right left l has) {y : Nat} : (y : Int) ∈ has ↔ ∃ j, j < right ∧ has.getD j default = (y : Int) := by
  rw [List.mem_iff_getElem]
  constructor
  · rintro ⟨j, hj, e⟩
    refine ⟨j, by rw [← h.len]; exact hj, ?_⟩
    rw [List.getD_eq_getElem?_getD, List.getElem?_eq_getElem hj, Option.getD_some, e]
  · rintro ⟨j, hj, e⟩
    have hj' : j < has.length := by rw [h.len]; exact hj
    refine ⟨j, hj', ?_⟩
    rw [List.getD_eq_getElem?_getD, List.getElem?_eq_getElem hj', Option.getD_some] at e
    exact e
theorem KE.mtch {has : List Int} (h : KE left right l has) : Mtch l (pairL has) ∧ (pairL has).length = mostK has := by
  refine ⟨⟨fun p hp => ?_, ?_, ?_⟩, by simp [pairL, mostK]⟩
  · obtain ⟨j, hj, rfl⟩ := List.mem_map.1 hp
    obtain ⟨h1, h2⟩ := mem_metR.1 hj
    obtain ⟨x, _, e, h3⟩ := h.ok.nat (by rw [← h.ok.len]; exact h1) (by omega)
    simp only [e, Int.toNat_natCast]; exact h3
  · unfold pairL
    rw [List.map_map, List.Nodup, List.pairwise_map]
    refine ((List.Pairwise.filter _ List.nodup_range : (metR has).Nodup)).imp_of_mem fun {a b} ha hb hne e => hne ?_
    obtain ⟨a1, a2⟩ := mem_metR.1 ha
    obtain ⟨b1, b2⟩ := mem_metR.1 hb
    rw [h.ok.len] at a1 b1
    have e' : (has.getD a default).toNat = (has.getD b default).toNat := e
    exact h.inj a b (has.getD a default).toNat a1 b1 (by omega) (by omega)
  · unfold pairL
    rw [List.map_map]
    have : (Prod.snd ∘ fun j => ((has.getD j default).toNat, j)) = id := rfl
    rw [this, List.map_id]
    exact List.Pairwise.filter _ List.nodup_range
/-! ### The cover -/
structure CS where
  met : Nat
  over : Nat
  todo : List Nat
def cJ (has : List Int) (s : CS) (j : Nat) : CS :=
  if has.getD j default < 0 then ⟨s.met, s.over ||| 2 ^ j, s.todo⟩
  else if s.met.testBit (has.getD j default).toNat then ⟨s.met, s.over ||| 2 ^ j, s.todo⟩
  else ⟨s.met ||| 2 ^ (has.getD j default).toNat, s.over ||| 2 ^ j, s.todo ++ [(has.getD j default).toNat]⟩
def cIn (next : List Nat) (has : List Int) (s : CS) (x : Nat) : CS := (pts (dif (next.getD x default) s.over)).foldl (cJ has) s
def cStep (next : List Nat) (has : List Int) (s : CS) : CS := ⟨(cIn next has s (s.todo.getD 0 default)).met, (cIn next has s (s.todo.getD 0 default)).over, (cIn next has s (s.todo.getD 0 default)).todo.drop 1⟩
def cRun (next : List Nat) (has : List Int) : Nat → CS → CS
  | 0, s => s
  | m + 1, s => if s.todo = [] then s else cRun next has m (cStep next has s)
def met0 (left : Nat) (has : List Int) : Nat := has.foldl (fun m h => if h < 0 then m else dif m (2 ^ h.toNat)) (2 ^ left - 1)
def cStart (left : Nat) (has : List Int) : CS := ⟨met0 left has, 0, pts (met0 left has)⟩
def coverS (left right : Nat) (l : List (Nat × Nat)) : CS := cRun (outS (max left 1) l) (kuhn left right l) left (cStart left (kuhn left right l))
def coverA (left right : Nat) (l : List (Nat × Nat)) : List Nat := pts (dif (2 ^ left - 1) (coverS left right l).met)
def coverB (left right : Nat) (l : List (Nat × Nat)) : List Nat := pts (coverS left right l).over
theorem met0_bit (left : Nat) (has : List Int) (i : Nat) : (met0 left has).testBit i = true ↔ i < left ∧ (i : Int) ∉ has := by
  unfold met0
  have : ∀ u : Nat, (has.foldl (fun m h => if h < 0 then m else dif m (2 ^ h.toNat)) u).testBit i = true ↔ u.testBit i = true ∧ (i : Int) ∉ has := by
    induction has with
    | nil => intro u; simp
    | cons h has ih =>
      intro u
      rw [List.foldl_cons, ih]
      split
      · rename_i hn
        have : (i : Int) ≠ h := by omega
        simp [this]
      · rename_i hn
        have e : (dif u (2 ^ h.toNat)).testBit i = true ↔ u.testBit i = true ∧ (i : Int) ≠ h := by
          rw [dif_bit, Bool.and_eq_true, Bool.not_eq_true', ← Bool.not_eq_true, two_pow_bit]
          exact and_congr_right fun _ => by omega
        rw [e, List.mem_cons]
        constructor
        · rintro ⟨⟨a, b⟩, c⟩; exact ⟨a, fun h => h.elim b c⟩
        · rintro ⟨a, b⟩; exact ⟨⟨a, fun h => b (.inl h)⟩, fun h => b (.inr h)⟩
  rw [this, below_bit]
/-- Closed: by lines and pairs in turn. -/
def AltC (left : Nat) (l : List (Nat × Nat)) (has : List Int) (S : Nat → Prop) : Prop := (∀ x, x < left → (x : Int) ∉ has → S x) ∧ ∀ x j (y : Nat), S x → (x, j) ∈ l → has.getD j default = (y : Int) → S y
structure CI (left right : Nat) (l : List (Nat × Nat)) (has : List Int) (s : CS) : Prop where
  free : ∀ x, x < left → (x : Int) ∉ has → s.met.testBit x = true
  metLt : ∀ x, s.met.testBit x = true → x < left
  overLt : ∀ j, s.over.testBit j = true → j < right
  todo : ∀ x ∈ s.todo, s.met.testBit x = true
  back : ∀ j, s.over.testBit j = true → ∀ x : Nat, has.getD j default = (x : Int) → s.met.testBit x = true
  why : ∀ x, s.met.testBit x = true → (x : Int) ∉ has ∨ ∃ j, s.over.testBit j = true ∧ has.getD j default = (x : Int)
  alt : ∀ S, AltC left l has S → (∀ x, s.met.testBit x = true → S x) ∧ ∀ j, s.over.testBit j = true → ∃ x, S x ∧ (x, j) ∈ l
  cnt : cnt s.met ≤ left
theorem cnt_bit {s x : Nat} (hx : x < 64) (h : s.testBit x = false) : cnt (s ||| 2 ^ x) = cnt s + 1 := by
  have := cnt_add s (2 ^ x) (fun j hj => by rw [two_pow_bit] at hj; subst hj; exact h)
  have e : pts (2 ^ x) = [x] := by
    have h1 : (pts (2 ^ x)).Nodup := List.Pairwise.filter _ List.nodup_range
    have h2 : ∀ y, y ∈ pts (2 ^ x) ↔ y = x := fun y => by rw [pts_mem, two_pow_bit]; omega
    cases hp : pts (2 ^ x) with
    | nil => have := (h2 x).2 rfl; rw [hp] at this; cases this
    | cons a t =>
      have ha : a = x := (h2 a).1 (by rw [hp]; simp)
      subst ha
      cases t with
      | nil => rfl
      | cons b t =>
        have hb : b = a := (h2 b).1 (by rw [hp]; simp)
        subst hb
        rw [hp] at h1
        simp at h1
  rw [e] at this
  simpa [addAll] using this
theorem cnt_lt {s n : Nat} (h : ∀ i, s.testBit i = true → i < n) : cnt s ≤ n := by
  unfold cnt
  rw [List.countP_eq_length_filter]
  have := pig (L := (List.range 64).filter fun i => s.testBit i) (M := List.range n) (List.Pairwise.filter _ List.nodup_range) (fun x hx => by simpa using h x (List.mem_filter.1 hx).2)
  simpa using this
include hl in
theorem CI.cJ {has : List Int} (hleft : left ≤ 64) (hk : HasOK right left l has) {s : CS} (h : CI left right l has s) {x j : Nat} (hx : s.met.testBit x = true) (hj : (x, j) ∈ l) :
    CI left right l has (Go.Proofs.cJ has s j) ∧ (Go.Proofs.cJ has s j).todo.length + Go.Aw.cnt s.met = s.todo.length + Go.Aw.cnt (Go.Proofs.cJ has s j).met ∧ s.todo <+: (Go.Proofs.cJ has s j).todo ∧ (∀ y, s.met.testBit y = true → (Go.Proofs.cJ has s j).met.testBit y = true) ∧
      (∀ y, (Go.Proofs.cJ has s j).over.testBit y = true ↔ s.over.testBit y = true ∨ y = j) ∧ (∀ y, (Go.Proofs.cJ has s j).met.testBit y = true → s.met.testBit y = true ∨ y ∈ (Go.Proofs.cJ has s j).todo) := by
  have hjr : j < right := (hl _ hj).2
  have hob : ∀ y, (s.over ||| 2 ^ j).testBit y = true ↔ s.over.testBit y = true ∨ y = j := fun y => by
    rw [Nat.testBit_or, Bool.or_eq_true, two_pow_bit]
    exact or_congr_right ⟨fun h => h.symm, fun h => h.symm⟩
  have halt : ∀ S, AltC left l has S → ∀ y, (s.over ||| 2 ^ j).testBit y = true → ∃ x, S x ∧ (x, y) ∈ l := fun S hS y hy => by
    rcases (hob y).1 hy with h1 | rfl
    · exact (h.alt S hS).2 y h1
    · exact ⟨x, (h.alt S hS).1 x hx, hj⟩
  have hover : ∀ y, (s.over ||| 2 ^ j).testBit y = true → y < right := fun y hy => by
    rcases (hob y).1 hy with h1 | rfl
    · exact h.overLt y h1
    · exact hjr
  unfold Go.Proofs.cJ
  split
  · rename_i hn
    refine ⟨⟨h.free, h.metLt, hover, h.todo, fun y hy z hz => ?_, fun y hy => ?_, fun S hS => ⟨(h.alt S hS).1, halt S hS⟩, h.cnt⟩, rfl, List.prefix_refl _, fun y hy => hy, hob, fun y hy => .inl hy⟩
    · rcases (hob y).1 hy with h1 | rfl
      · exact h.back y h1 z hz
      · omega
    · exact (h.why y hy).imp id fun ⟨z, h1, h2⟩ => ⟨z, (hob z).2 (.inl h1), h2⟩
  · rename_i hn
    obtain ⟨w, hw, hwe, hwl⟩ := hk.nat hjr hn
    rw [hwe, Int.toNat_natCast]
    split
    · rename_i hm
      refine ⟨⟨h.free, h.metLt, hover, h.todo, fun y hy z hz => ?_, fun y hy => ?_, fun S hS => ⟨(h.alt S hS).1, halt S hS⟩, h.cnt⟩, rfl, List.prefix_refl _, fun y hy => hy, hob, fun y hy => .inl hy⟩
      · rcases (hob y).1 hy with h1 | rfl
        · exact h.back y h1 z hz
        · have : z = w := by omega
          subst this; exact hm
      · exact (h.why y hy).imp id fun ⟨z, h1, h2⟩ => ⟨z, (hob z).2 (.inl h1), h2⟩
    · rename_i hm
      have hm' : s.met.testBit w = false := by simpa using hm
      have hmb : ∀ y, (s.met ||| 2 ^ w).testBit y = true ↔ s.met.testBit y = true ∨ y = w := fun y => by
        rw [Nat.testBit_or, Bool.or_eq_true, two_pow_bit]
        exact or_congr_right ⟨fun h => h.symm, fun h => h.symm⟩
      have hc := cnt_bit (x := w) (by omega) hm'
      have hmlt : ∀ y, (s.met ||| 2 ^ w).testBit y = true → y < left := fun y hy => by
        rcases (hmb y).1 hy with h1 | rfl
        · exact h.metLt y h1
        · exact hw
      refine ⟨⟨fun y h1 h2 => (hmb y).2 (.inl (h.free y h1 h2)), hmlt, hover, fun y hy => ?_, fun y hy z hz => ?_, fun y hy => ?_, fun S hS => ⟨fun y hy => ?_, halt S hS⟩, cnt_lt hmlt⟩, ?_, List.prefix_append _ _, fun y hy => (hmb y).2 (.inl hy), hob, fun y hy => ?_⟩
      · rcases List.mem_append.1 hy with h1 | h1
        · exact (hmb y).2 (.inl (h.todo y h1))
        · exact (hmb y).2 (.inr (by simpa using h1))
      · rcases (hob y).1 hy with h1 | rfl
        · exact (hmb z).2 (.inl (h.back y h1 z hz))
        · exact (hmb z).2 (.inr (by omega))
      · rcases (hmb y).1 hy with h1 | rfl
        · exact (h.why y h1).imp id fun ⟨z, h1, h2⟩ => ⟨z, (hob z).2 (.inl h1), h2⟩
        · exact .inr ⟨j, (hob j).2 (.inr rfl), hwe⟩
      · rcases (hmb y).1 hy with h1 | rfl
        · exact (h.alt S hS).1 y h1
        · exact hS.2 x j y ((h.alt S hS).1 x hx) hj hwe
      · simp only [List.length_append, List.length_cons, List.length_nil]; omega
      · rcases (hmb y).1 hy with h1 | rfl
        · exact .inl h1
        · exact .inr (by simp)

include hl in
theorem CI.cIn {has : List Int} (hleft : left ≤ 64) (hk : HasOK right left l has) {x : Nat} : ∀ (L : List Nat) {s : CS}, CI left right l has s → s.met.testBit x = true → (∀ j ∈ L, (x, j) ∈ l) →
    CI left right l has (L.foldl (Go.Proofs.cJ has) s) ∧ (L.foldl (Go.Proofs.cJ has) s).todo.length + Go.Aw.cnt s.met = s.todo.length + Go.Aw.cnt (L.foldl (Go.Proofs.cJ has) s).met ∧ s.todo <+: (L.foldl (Go.Proofs.cJ has) s).todo ∧
      (∀ y, s.met.testBit y = true → (L.foldl (Go.Proofs.cJ has) s).met.testBit y = true) ∧ (∀ y, (L.foldl (Go.Proofs.cJ has) s).over.testBit y = true ↔ s.over.testBit y = true ∨ y ∈ L) ∧
      (∀ y, (L.foldl (Go.Proofs.cJ has) s).met.testBit y = true → s.met.testBit y = true ∨ y ∈ (L.foldl (Go.Proofs.cJ has) s).todo) := by
  intro L
  induction L with
  | nil => intro s h _ _; exact ⟨h, rfl, List.prefix_refl _, fun y hy => hy, fun y => by simp, fun y hy => .inl hy⟩
  | cons j L ih =>
    intro s h hx hL
    obtain ⟨h1, h2, h3, h4, h5, h6⟩ := h.cJ hl hleft hk hx (hL j (by simp))
    obtain ⟨g1, g2, g3, g4, g5, g6⟩ := ih h1 (h4 x hx) (fun k hk => hL k (by simp [hk]))
    rw [List.foldl_cons]
    refine ⟨g1, by omega, h3.trans g3, fun y hy => g4 y (h4 y hy), fun y => ?_, fun y hy => ?_⟩
    · rw [g5, h5, List.mem_cons, or_assoc]
    · rcases g6 y hy with h7 | h7
      · rcases h6 y h7 with h8 | h8
        · exact .inl h8
        · exact .inr (g3.subset h8)
      · exact .inr h7
/-- Whom one has to look at no more has all beside it. -/
def Cl (l : List (Nat × Nat)) (s : CS) : Prop := ∀ x, s.met.testBit x = true → x ∉ s.todo → ∀ j, (x, j) ∈ l → s.over.testBit j = true
include hl in
theorem CI.cStep {has : List Int} (hleft : left ≤ 64) (hr : right ≤ 64) (hk : HasOK right left l has) {s : CS} (h : CI left right l has s) (hc : Cl l s) (ht : s.todo ≠ []) :
    CI left right l has (Go.Proofs.cStep (outS (max left 1) l) has s) ∧ Cl l (Go.Proofs.cStep (outS (max left 1) l) has s) ∧ (Go.Proofs.cStep (outS (max left 1) l) has s).todo.length + Go.Aw.cnt s.met + 1 = s.todo.length + Go.Aw.cnt (Go.Proofs.cStep (outS (max left 1) l) has s).met := by
  obtain ⟨x, rest, e⟩ := List.exists_cons_of_ne_nil ht
  have hx : s.met.testBit x = true := h.todo x (by rw [e]; simp)
  have e0 : s.todo.getD 0 default = x := by rw [e]; rfl
  unfold Go.Proofs.cStep Go.Proofs.cIn
  rw [e0]
  have hmem : ∀ j, j ∈ pts (dif ((outS (max left 1) l).getD x default) s.over) ↔ (x, j) ∈ l ∧ s.over.testBit j = false := fun j => by
    have := outS_sides hl hr x j
    rw [pts_mem] at this ⊢
    rw [dif_bit, Bool.and_eq_true, Bool.not_eq_true', ← this, and_assoc]
  obtain ⟨h1, h2, h3, h4, h5, h6⟩ := h.cIn hl hleft hk (x := x) (pts (dif ((outS (max left 1) l).getD x default) s.over)) hx (fun j hj => ((hmem j).1 hj).1)
  generalize (pts (dif ((outS (max left 1) l).getD x default) s.over)).foldl (Go.Proofs.cJ has) s = s' at h1 h2 h3 h4 h5 h6
  obtain ⟨t, ht'⟩ := h3
  rw [e] at ht'
  have ed : s'.todo.drop 1 = rest ++ t := by rw [← ht']; rfl
  refine ⟨⟨h1.free, h1.metLt, h1.overLt, fun y hy => h1.todo y (List.mem_of_mem_drop hy), h1.back, h1.why, h1.alt, h1.cnt⟩, fun y hy hny j hj => ?_, ?_⟩
  · simp only at hy hny ⊢
    rw [ed] at hny
    rw [h5, hmem]
    by_cases hyx : y = x
    · subst hyx
      cases ho : s.over.testBit j with
      | true => exact .inl rfl
      | false => exact .inr ⟨hj, rfl⟩
    · rcases h6 y hy with h7 | h7
      · refine .inl (hc y h7 ?_ j hj)
        rw [e]
        exact fun h' => (List.mem_cons.1 h').elim hyx (fun h8 => hny (List.mem_append_left _ h8))
      · rw [← ht'] at h7
        rcases List.mem_cons.1 h7 with h8 | h8
        · exact absurd h8 hyx
        · exact absurd h8 hny
  · simp only
    rw [ed]
    rw [← ht', e] at h2
    simp only [List.length_cons, List.cons_append] at h2
    rw [e]
    simp only [List.length_cons]
    omega
include hl in
theorem cRun_end {has : List Int} (hleft : left ≤ 64) (hr : right ≤ 64) (hk : HasOK right left l has) : ∀ (m : Nat) (s : CS), CI left right l has s → Cl l s → s.todo.length + (left - cnt s.met) ≤ m →
    CI left right l has (cRun (outS (max left 1) l) has m s) ∧ Cl l (cRun (outS (max left 1) l) has m s) ∧ (cRun (outS (max left 1) l) has m s).todo = [] := by
  intro m
  induction m with
  | zero =>
    intro s h hc hm
    exact ⟨h, hc, List.eq_nil_of_length_eq_zero (by show s.todo.length = 0; omega)⟩
  | succ m ih =>
    intro s h hc hm
    unfold cRun
    by_cases ht : s.todo = []
    · rw [if_pos ht]; exact ⟨h, hc, ht⟩
    · rw [if_neg ht]
      obtain ⟨h1, h2, h3⟩ := h.cStep hl hleft hr hk hc ht
      have := h.cnt
      have := h1.cnt
      exact ih _ h1 h2 (by omega)
theorem CI.start {has : List Int} (left right : Nat) (l : List (Nat × Nat)) (hleft : left ≤ 64) : CI left right l has (cStart left has) ∧ Cl l (cStart left has) ∧ (cStart left has).todo.length + (left - Go.Aw.cnt (cStart left has).met) ≤ left := by
  have hb := met0_bit left has
  have hlt : ∀ x, (met0 left has).testBit x = true → x < left := fun x hx => ((hb x).1 hx).1
  have hc := cnt_lt hlt
  refine ⟨⟨fun x h1 h2 => (hb x).2 ⟨h1, h2⟩, hlt, fun j hj => ?_, fun x hx => ((pts_mem _ _).1 hx).2, fun j hj => ?_, fun x hx => .inl ((hb x).1 hx).2, fun S hS => ⟨fun x hx => hS.1 x ((hb x).1 hx).1 ((hb x).1 hx).2, fun j hj => ?_⟩, hc⟩, fun x hx hn => ?_, ?_⟩
  · simp [cStart] at hj
  · simp [cStart] at hj
  · simp [cStart] at hj
  · exact absurd ((pts_mem _ _).2 ⟨by have := hlt x hx; omega, hx⟩) hn
  · have e : (cStart left has).todo.length = Go.Aw.cnt (cStart left has).met := by
      show (pts (met0 left has)).length = Go.Aw.cnt (met0 left has)
      unfold pts Go.Aw.cnt
      rw [List.countP_eq_length_filter]
    rw [e]
    have : Go.Aw.cnt (cStart left has).met ≤ left := hc
    omega
include hl in
theorem cover_end (hleft : left ≤ 64) (hr : right ≤ 64) : CI left right l (kuhn left right l) (coverS left right l) ∧ ∀ x, (coverS left right l).met.testBit x = true → ∀ j, (x, j) ∈ l → (coverS left right l).over.testBit j = true := by
  have hk := (kuhn_end hl hr).ok
  obtain ⟨h1, h2, h3⟩ := CI.start (has := kuhn left right l) left right l hleft
  obtain ⟨g1, g2, g3⟩ := cRun_end hl hleft hr hk left _ h1 h2 h3
  exact ⟨g1, fun x hx => g2 x hx (by show x ∉ (coverS left right l).todo; unfold coverS; rw [g3]; simp)⟩
include hl in
/-- As many pairs as cover all lines. -/
theorem konig (hleft : left ≤ 64) (hr : right ≤ 64) : Cov l (coverA left right l) (coverB left right l) ∧ (coverA left right l).length + (coverB left right l).length = mostK (kuhn left right l) := by
  obtain ⟨h, hc⟩ := cover_end hl hleft hr
  have hE := kuhn_end hl hr
  have hA : ∀ x, x ∈ coverA left right l ↔ x < left ∧ (coverS left right l).met.testBit x = false := fun x => by
    unfold coverA
    rw [pts_mem, dif_bit, Bool.and_eq_true, Bool.not_eq_true', below_bit]
    exact ⟨fun h => h.2, fun h => ⟨by omega, h⟩⟩
  have hB : ∀ j, j ∈ coverB left right l ↔ (coverS left right l).over.testBit j = true := fun j => by
    unfold coverB
    rw [pts_mem]
    exact ⟨fun h => h.2, fun h' => ⟨by have := h.overLt j h'; omega, h'⟩⟩
  refine ⟨fun p hp => ?_, ?_⟩
  · cases hm : (coverS left right l).met.testBit p.1 with
    | true => exact .inr ((hB _).2 (hc _ hm _ hp))
    | false => exact .inl ((hA _).2 ⟨(hl p hp).1, hm⟩)
  · generalize hgs : kuhn left right l = has at h hE ⊢
    -- over: all of them have one
    obtain ⟨D, hD, hF⟩ := hE.free
    have hDS : AltC left l has fun x => ∀ j, (x, j) ∈ l → D j := ⟨fun x hx hn => hF x hx hn, fun x j y hx hj hy k hk => by
      obtain ⟨_, z, hz, hzk⟩ := hD j (hx j hj)
      have : z = y := by omega
      subst this
      exact hzk k hk⟩
    have hov : ∀ j, (coverS left right l).over.testBit j = true → j < right ∧ ∃ x : Nat, has.getD j default = (x : Int) := fun j hj => by
      obtain ⟨x, hx, hxj⟩ := (h.alt _ hDS).2 j hj
      obtain ⟨h1, y, h2, _⟩ := hD j (hx j hxj)
      exact ⟨h1, y, h2⟩
    have nd : (metR has).Nodup := List.Pairwise.filter _ List.nodup_range
    have e1 : mostK has = ((metR has).filter fun j => (coverS left right l).over.testBit j).length + ((metR has).filter fun j => !(coverS left right l).over.testBit j).length := by
      have := List.length_eq_countP_add_countP (fun j : Nat => (coverS left right l).over.testBit j) (l := metR has)
      rw [List.countP_eq_length_filter, List.countP_eq_length_filter] at this
      unfold mostK
      rw [this]; congr 2
      simp
    have e2 : (coverB left right l).length = ((metR has).filter fun j => (coverS left right l).over.testBit j).length := by
      have n1 : (coverB left right l).Nodup := List.Pairwise.filter _ List.nodup_range
      have n2 : ((metR has).filter fun j => (coverS left right l).over.testBit j).Nodup := List.Pairwise.filter _ nd
      refine Nat.le_antisymm (pig n1 fun x hx => ?_) (pig n2 fun x hx => (hB x).2 (List.mem_filter.1 hx).2)
      have h1 := (hB x).1 hx
      obtain ⟨h2, y, h3⟩ := hov x h1
      exact List.mem_filter.2 ⟨mem_metR.2 ⟨by rw [hE.ok.len]; exact h2, by omega⟩, h1⟩
    have e3 : (coverA left right l).length = ((metR has).filter fun j => !(coverS left right l).over.testBit j).length := by
      have n1 : (coverA left right l).Nodup := List.Pairwise.filter _ List.nodup_range
      have n2 : (((metR has).filter fun j => !(coverS left right l).over.testBit j).map fun j => (has.getD j default).toNat).Nodup := by
        rw [List.Nodup, List.pairwise_map]
        refine (List.Pairwise.filter _ nd).imp_of_mem fun {a b} ha hb hne e => hne ?_
        obtain ⟨a1, a2⟩ := mem_metR.1 (List.mem_filter.1 ha).1
        obtain ⟨b1, b2⟩ := mem_metR.1 (List.mem_filter.1 hb).1
        rw [hE.ok.len] at a1 b1
        exact hE.inj a b (has.getD a default).toNat a1 b1 (by omega) (by omega)
      have el : (((metR has).filter fun j => !(coverS left right l).over.testBit j).map fun j => (has.getD j default).toNat).length = ((metR has).filter fun j => !(coverS left right l).over.testBit j).length := List.length_map _
      rw [← el]
      refine Nat.le_antisymm (pig n1 fun x hx => ?_) (pig n2 fun x hx => ?_)
      · obtain ⟨h1, h2⟩ := (hA x).1 hx
        have h3 : (x : Int) ∈ has := Classical.byContradiction fun hn => by rw [h.free x h1 hn] at h2; cases h2
        obtain ⟨j, hj, e⟩ := hE.ok.mem_iff.1 h3
        refine List.mem_map.2 ⟨j, List.mem_filter.2 ⟨mem_metR.2 ⟨by rw [hE.ok.len]; exact hj, by omega⟩, ?_⟩, by rw [e]; rfl⟩
        cases ho : (coverS left right l).over.testBit j with
        | true => rw [h.back j ho x e] at h2; cases h2
        | false => rfl
      · obtain ⟨j, hj, rfl⟩ := List.mem_map.1 hx
        obtain ⟨h1, h2⟩ := List.mem_filter.1 hj
        obtain ⟨h3, h4⟩ := mem_metR.1 h1
        obtain ⟨y, hy, e, _⟩ := hE.ok.nat (by rw [← hE.ok.len]; exact h3) (by omega)
        rw [e, Int.toNat_natCast]
        refine (hA y).2 ⟨hy, ?_⟩
        rw [← Bool.not_eq_true]
        intro hm
        rcases h.why y hm with h5 | ⟨k, h5, h6⟩
        · exact h5 (hE.ok.mem_iff.2 ⟨j, by rw [← hE.ok.len]; exact h3, e⟩)
        · have := hE.inj j k y (by rw [← hE.ok.len]; exact h3) (h.overLt k h5) e h6
          subst this
          rw [h5] at h2; cases h2
    omega
include hl in
theorem most_MN (hleft : left ≤ 64) (hr : right ≤ 64) : MN l (mostK (kuhn left right l)) := by
  obtain ⟨h1, h2⟩ := konig hl hleft hr
  obtain ⟨h3, h4⟩ := (kuhn_end hl hr).mtch
  exact ⟨⟨_, h3, h4⟩, _, _, h1, h2⟩
/-! ### Mendelsohn, Dulmage -/
include hl in
theorem least (hleft : left ≤ 64) (hr : right ≤ 64) {i : Nat} (hi : i < left) {m : Nat} {l' : List (Nat × Nat)} (hm : MN l' m) (hl' : ∀ p, p ∈ l' ↔ p ∈ l ∧ p.1 ≠ i) :
    (i ∈ coverA left right l → m + 1 = mostK (kuhn left right l)) ∧ (i ∉ coverA left right l → m = mostK (kuhn left right l)) := by
  have hM := most_MN hl hleft hr
  have hle : m ≤ mostK (kuhn left right l) := hm.le hM fun p hp => ((hl' p).1 hp).1
  obtain ⟨hc, hn⟩ := konig hl hleft hr
  constructor
  · intro hA
    have h1 : m + 1 ≤ mostK (kuhn left right l) := by
      obtain ⟨⟨M, hM1, rfl⟩, _⟩ := hm
      have := hM1.weak (A := (coverA left right l).erase i) (B := coverB left right l) fun p hp => by
        obtain ⟨h2, h3⟩ := (hl' p).1 hp
        exact (hc p h2).imp (fun h => (List.mem_erase_of_ne h3).2 h) id
      rw [List.length_erase_of_mem hA] at this
      have := List.length_pos_of_mem hA
      omega
    have h2 : mostK (kuhn left right l) ≤ m + 1 := by
      obtain ⟨⟨M, hM1, e⟩, _⟩ := hM
      obtain ⟨_, A, B, h3, h4⟩ := hm
      have := hM1.weak (A := i :: A) (B := B) fun p hp => by
        by_cases h5 : p.1 = i
        · exact .inl (by simp [h5])
        · exact (h3 p ((hl' p).2 ⟨hp, h5⟩)).imp (fun h => by simp [h]) id
      simp only [List.length_cons] at this
      omega
    omega
  · intro hA
    refine Nat.le_antisymm hle (Nat.le_of_not_lt fun hlt => ?_)
    obtain ⟨h, _⟩ := cover_end hl hleft hr
    have hmet : (coverS left right l).met.testBit i = true := by
      cases hm' : (coverS left right l).met.testBit i with
      | true => rfl
      | false => exact absurd ((pts_mem _ _).2 ⟨by omega, by rw [dif_bit, Bool.and_eq_true, below_bit]; exact ⟨hi, by rw [hm']; rfl⟩⟩) hA
    have hE := kuhn_end hl hr
    obtain ⟨hP, hPl⟩ := hE.mtch
    obtain ⟨_, A, B, h3, h4⟩ := hm
    have hcov : Cov l (i :: A) B := fun p hp => by
      by_cases h5 : p.1 = i
      · exact .inl (by simp [h5])
      · exact (h3 p ((hl' p).2 ⟨hp, h5⟩)).imp (fun h => by simp [h]) id
    have tight : ∀ x, x ∈ i :: A → ¬ Cov (pairL (kuhn left right l)) ((i :: A).erase x) B := fun x hx hcv => by
      have := weak hP.fst hP.snd hcv
      rw [List.length_erase_of_mem hx] at this
      simp only [List.length_cons] at this
      omega
    have hin : ∀ p, p ∈ pairL (kuhn left right l) ↔ p.2 < right ∧ (kuhn left right l).getD p.2 default = (p.1 : Int) := fun p => by
      unfold pairL
      rw [List.mem_map]
      constructor
      · rintro ⟨j, hj, rfl⟩
        obtain ⟨h1, h2⟩ := mem_metR.1 hj
        exact ⟨by rw [← hE.ok.len]; exact h1, by simp only; omega⟩
      · rintro ⟨h1, h2⟩
        exact ⟨p.2, mem_metR.2 ⟨by rw [hE.ok.len]; exact h1, by omega⟩, by rw [h2]; rfl⟩
    have := (h.alt (fun x => x ∉ i :: A) ⟨fun x hx hno hxA => ?_, fun x j y hx hj hy hyA => ?_⟩).1 i hmet
    · exact this (by simp)
    · refine tight x hxA fun p hp => ?_
      refine (hcov p (hP.sub p hp)).imp (fun h' => (List.mem_erase_of_ne fun e => hno ?_).2 h') id
      rw [← e]
      exact hE.ok.mem_iff.2 ⟨p.2, ((hin p).1 hp).1, ((hin p).1 hp).2⟩
    · have hjB : j ∈ B := (hcov _ hj).resolve_left hx
      refine tight y hyA fun p hp => ?_
      by_cases hpy : p.1 = y
      · refine .inr ?_
        obtain ⟨h1, h2⟩ := (hin p).1 hp
        have := hE.inj p.2 j y h1 (hl _ hj).2 (by rw [h2, hpy]) hy
        rw [this]; exact hjB
      · exact (hcov p (hP.sub p hp)).imp (fun h' => (List.mem_erase_of_ne hpy).2 h') id
end
end Go.Proofs

namespace Go.Proofs
open Go.Aw
/-- Ways by their points. -/
def WayF (l : List (Nat × Nat)) (p : Nat → Nat) (k : Nat) : Prop := ∀ i, i < k → (p i, p (i + 1)) ∈ l
theorem WayF.pathN {l : List (Nat × Nat)} {p : Nat → Nat} {k : Nat} (h : WayF l p k) : ∀ m i, i + m ≤ k → PathN l (p i) m (p (i + m)) := by
  intro m
  induction m with
  | zero => intro i _; exact .refl
  | succ m ih => intro i hi; exact .step (ih i (by omega)) (h (i + m) (by omega))
theorem PathN.wayF {l : List (Nat × Nat)} {a k b : Nat} (h : PathN l a k b) : ∃ p, p 0 = a ∧ p k = b ∧ WayF l p k := by
  induction h with
  | refl => exact ⟨fun _ => a, rfl, rfl, fun i hi => by omega⟩
  | step _h0 h1 ih =>
    rename_i k b c
    obtain ⟨p, h2, h3, h4⟩ := ih
    refine ⟨fun i => if i ≤ k then p i else c, ?_, ?_, fun i hi => ?_⟩
    · simp only; rw [if_pos (by omega)]; exact h2
    · simp only; rw [if_neg (by omega)]
    · simp only
      rw [if_pos (by omega)]
      by_cases hik : i + 1 ≤ k
      · rw [if_pos hik]; exact h4 i (by omega)
      · have : i = k := by omega
        subst this
        rw [if_neg hik, h3]; exact h1
theorem PathN.trans {l : List (Nat × Nat)} {a k b m c : Nat} (h : PathN l a k b) (h' : PathN l b m c) : PathN l a (k + m) c := by
  induction h' with
  | refl => exact h
  | step _ h1 ih => exact .step ih h1
theorem PathN.sym {l : List (Nat × Nat)} {a k b : Nat} (h : PathN (symL l) a k b) : PathN (symL l) b k a := by
  induction h with
  | refl => exact .refl
  | step _ h1 ih => exact .cons (symL_flip h1) ih
/-- Two alike among more than n. -/
theorem two_alike {n : Nat} {p : Nat → Nat} {k : Nat} (hk : n < k) (hp : ∀ i, i < k → p i < n) : ∃ i j, i < j ∧ j < k ∧ p i = p j := by
  refine Classical.byContradiction fun hno => ?_
  have hnd : ((List.range k).map p).Nodup := by
    unfold List.Nodup
    rw [List.pairwise_map]
    refine List.Pairwise.imp_of_mem ?_ List.pairwise_lt_range
    intro a b ha hb hab e
    exact hno ⟨a, b, hab, by simpa using hb, e⟩
  have := pig (M := List.range n) hnd (fun x hx => by
    obtain ⟨i, hi, rfl⟩ := List.mem_map.1 hx
    simpa using hp i (by simpa using hi))
  rw [List.length_map, List.length_range, List.length_range] at this
  omega
/-- An odd ring that is shortest has no more lines than there are points. -/
theorem odd_short {n : Nat} {l : List (Nat × Nat)} (hg : Good n l) : ∀ (k a : Nat), PathN l a k a → k % 2 = 1 → ∃ m b, m ≤ n ∧ m ≤ k ∧ m % 2 = 1 ∧ PathN l b m b := by
  intro k
  induction k using Nat.strongRecOn with
  | ind k ih =>
    intro a h hk
    rcases Nat.lt_or_ge n k with hn | hn
    · obtain ⟨p, h1, h2, h3⟩ := h.wayF
      obtain ⟨i, j, hij, hjk, e⟩ := two_alike (p := p) hn fun i hi => (hg _ (h3 i hi)).1
      have a1 := h3.pathN (j - i) i (by omega)
      rw [show i + (j - i) = j by omega, ← e] at a1
      have a2 := h3.pathN i 0 (by omega)
      rw [Nat.zero_add, h1, e] at a2
      have a3 := h3.pathN (k - j) j (by omega)
      rw [show j + (k - j) = k by omega, h2] at a3
      have a4 := a2.trans a3
      rcases Nat.mod_two_eq_zero_or_one (j - i) with h5 | h5
      · obtain ⟨m, b, g1, g2, g3, g4⟩ := ih (i + (k - j)) (by omega) a a4 (by omega)
        exact ⟨m, b, g1, by omega, g3, g4⟩
      · obtain ⟨m, b, g1, g2, g3, g4⟩ := ih (j - i) (by omega) (p i) a1 h5
        exact ⟨m, b, g1, by omega, g3, g4⟩
    · exact ⟨k, a, hn, Nat.le_refl _, hk, h⟩
theorem odd_iff {n : Nat} {l : List (Nat × Nat)} (hn : n ≤ 64) (hg : Good n l) : halfOk n l = false ↔ ∃ m b, m ≤ n ∧ m % 2 = 1 ∧ PathN (symL l) b m b := by
  constructor
  · intro h
    have : ∃ p ∈ l, (halfL n l).getD p.1 default = (halfL n l).getD p.2 default := by
      refine Classical.byContradiction fun hno => ?_
      have : halfOk n l = true := List.all_eq_true.2 fun p hp => by
        simp only [Bool.not_eq_true', decide_eq_false_iff_not]
        exact fun e => hno ⟨p, hp, e⟩
      rw [h] at this; cases this
    obtain ⟨⟨a, b⟩, hab, e⟩ := this
    obtain ⟨k, h2, h4⟩ := half_get hn hg (hg _ hab).1
    obtain ⟨m, h3, h5⟩ := half_get hn hg (hg _ hab).2
    rw [h2, h3] at e
    simp only at h4 h5
    rw [← root_eq hn hg (hg _ hab).1 (hg _ hab).2 (.one (symL_mem.2 (.inl hab)))] at h5
    have := (h4.step (symL_mem.2 (.inl hab))).trans h5.sym
    obtain ⟨x, y, g1, g2, g3, g4⟩ := odd_short (symL_good hg) _ _ this (by omega)
    exact ⟨x, y, g1, g3, g4⟩
  · rintro ⟨m, b, _, h1, h2⟩
    cases h : halfOk n l with
    | false => rfl
    | true =>
      obtain ⟨c, hc⟩ := (half_iff hn hg).1 h
      have := h2.col hc
      rw [h1] at this
      revert this; cases c b <;> decide
/-- Where one is after so many lines. -/
def nowS (next : List Nat) (a : Nat) : Nat → Nat
  | 0 => 2 ^ a
  | k + 1 => orL next (pts (nowS next a k))
theorem nowS_bit {n : Nat} {l : List (Nat × Nat)} (hn : n ≤ 64) (hg : Good n l) {a : Nat} (ha : a < n) : ∀ k j, (nowS (outS n l) a k).testBit j = true ↔ PathN l a k j := by
  intro k
  induction k with
  | zero =>
    intro j
    show (2 ^ a).testBit j = true ↔ _
    rw [two_pow_bit]
    exact ⟨fun e => by subst e; exact .refl, fun h => by cases h; rfl⟩
  | succ k ih =>
    intro j
    show (orL _ _).testBit j = true ↔ _
    rw [orL_bit]
    constructor
    · rintro ⟨b, h1, h2⟩
      exact .step ((ih b).1 ((pts_mem _ _).1 h1).2) ((outS_bit _ _ _ _).1 h2).2
    · intro h
      cases h with
      | step h h1 =>
        have hb := (hg _ h1).1
        exact ⟨_, (pts_mem _ _).2 ⟨by simp at hb; omega, (ih _).2 h⟩, (outS_bit _ _ _ _).2 ⟨hb, h1⟩⟩
theorem nowS_lt {next : List Nat} (hx : ∀ x ∈ next, x < 2 ^ 64) {a : Nat} (ha : a < 64) (k : Nat) : nowS next a k < 2 ^ 64 := by
  cases k with
  | zero => exact Nat.pow_lt_pow_right (by omega) ha
  | succ k => exact orL_lt hx _
def oddK (next : List Nat) (a b k : Nat) : Nat := if k % 2 = 1 ∧ (nowS next a k).testBit a = true ∧ (b = 0 ∨ k < b) then k else b
def oddA (next : List Nat) (n b a : Nat) : Nat := (List.range n).foldl (fun b k => oddK next a b (k + 1)) b
def oddN (n : Nat) (next : List Nat) : Nat := (List.range n).foldl (oddA next n) 0
theorem fold_odd {α : Type} (q : α → Nat) (ok : α → Prop) [DecidablePred ok] (step : Nat → α → Nat) (hs : ∀ b x, step b x = if ok x ∧ (b = 0 ∨ q x < b) then q x else b) (hq : ∀ x, ok x → 0 < q x) :
    ∀ (L : List α) (b : Nat), (L.foldl step b = 0 ↔ b = 0 ∧ ∀ x ∈ L, ¬ ok x) ∧ (L.foldl step b = b ∨ ∃ x ∈ L, ok x ∧ L.foldl step b = q x) := by
  intro L
  induction L with
  | nil => intro b; exact ⟨by simp, .inl rfl⟩
  | cons x L ih =>
    intro b
    obtain ⟨h1, h2⟩ := ih (step b x)
    rw [List.foldl_cons]
    constructor
    · rw [h1, hs]
      by_cases hc : ok x ∧ (b = 0 ∨ q x < b)
      · rw [if_pos hc]
        have := hq x hc.1
        exact ⟨fun h => by omega, fun h => absurd hc.1 (h.2 x (by simp))⟩
      · rw [if_neg hc]
        constructor
        · rintro ⟨rfl, h⟩
          refine ⟨rfl, fun y hy => ?_⟩
          rcases List.mem_cons.1 hy with rfl | hy
          · exact fun hok => hc ⟨hok, .inl rfl⟩
          · exact h y hy
        · rintro ⟨h3, h4⟩
          exact ⟨h3, fun y hy => h4 y (by simp [hy])⟩
    · rcases h2 with h2 | ⟨y, hy, h3, h4⟩
      · rw [h2, hs]
        by_cases hc : ok x ∧ (b = 0 ∨ q x < b)
        · rw [if_pos hc]; exact .inr ⟨x, by simp, hc.1, rfl⟩
        · rw [if_neg hc]; exact .inl rfl
      · exact .inr ⟨y, by simp [hy], h3, h4⟩
theorem odd_flat (n : Nat) (next : List Nat) : oddN n next = ((List.range n).flatMap fun a => (List.range n).map fun k => (a, k + 1)).foldl (fun b p => oddK next p.1 b p.2) 0 := by
  unfold oddN
  rw [List.foldl_flatMap]
  congr 1
  funext b a
  rw [List.foldl_map]; rfl
/-- How many lines the shortest odd ring has. -/
theorem oddN_spec (n : Nat) (next : List Nat) : (oddN n next = 0 ↔ ∀ a k, a < n → k ≤ n → k % 2 = 1 → (nowS next a k).testBit a = false) ∧ (oddN n next ≠ 0 → oddN n next % 2 = 1 ∧ oddN n next ≤ n) := by
  rw [odd_flat]
  have hm : ∀ p : Nat × Nat, p ∈ ((List.range n).flatMap fun a => (List.range n).map fun k => (a, k + 1)) ↔ p.1 < n ∧ 0 < p.2 ∧ p.2 ≤ n := by
    rintro ⟨a, k⟩
    simp only [List.mem_flatMap, List.mem_map, List.mem_range, Prod.mk.injEq]
    constructor
    · rintro ⟨x, hx, y, hy, rfl, rfl⟩; exact ⟨hx, by omega, by omega⟩
    · rintro ⟨h1, h2, h3⟩; exact ⟨a, h1, k - 1, by omega, rfl, by omega⟩
  obtain ⟨h1, h2⟩ := fold_odd (fun p : Nat × Nat => p.2) (fun p => p.2 % 2 = 1 ∧ (nowS next p.1 p.2).testBit p.1 = true) (fun b p => oddK next p.1 b p.2) (fun b p => by
    show (if _ then _ else _) = _
    simp only [and_assoc]) (fun p hp => by omega) ((List.range n).flatMap fun a => (List.range n).map fun k => (a, k + 1)) 0
  constructor
  · rw [h1]
    constructor
    · rintro ⟨_, h⟩ a k ha hk ho
      cases h3 : (nowS next a k).testBit a with
      | false => rfl
      | true => exact absurd ⟨ho, h3⟩ (h (a, k) ((hm _).2 ⟨ha, by show 0 < k; omega, hk⟩))
    · intro h
      refine ⟨rfl, fun p hp hok => ?_⟩
      have := (hm p).1 hp
      rw [h p.1 p.2 this.1 this.2.2 hok.1] at hok
      exact absurd hok.2 (by decide)
  · intro hne
    rcases h2 with h2 | ⟨p, hp, h3, h4⟩
    · exact absurd h2 hne
    · rw [h4]
      exact ⟨h3.1, ((hm p).1 hp).2.2⟩
/-- KOENIG: points can be parted in two just if no ring is odd. -/
theorem odd_half {n : Nat} {l : List (Nat × Nat)} (hn : n ≤ 64) (hg : Good n l) : oddN n (outS n (symL l)) = 0 ↔ halfOk n l = true := by
  have h := odd_iff hn hg
  rw [(oddN_spec _ _).1]
  constructor
  · intro h1
    cases h2 : halfOk n l with
    | true => rfl
    | false =>
      obtain ⟨m, b, h3, h4, h5⟩ := h.1 h2
      have hb : b < n := by
        cases m with
        | zero => omega
        | succ m => exact (h5.ends (symL_good hg)).1
      have := h1 b m hb h3 h4
      rw [(nowS_bit hn (symL_good hg) hb m b).2 h5] at this
      cases this
  · intro h1 a k ha hk ho
    cases h3 : (nowS (outS n (symL l)) a k).testBit a with
    | false => rfl
    | true =>
      rw [h.2 ⟨k, a, hk, ho, (nowS_bit hn (symL_good hg) ha k a).1 h3⟩] at h1
      cases h1
end Go.Proofs

namespace Go.Proofs
open Go.Aw
/-- Each point that is met was met from one that is nearer. -/
def Par (l : List (Nat × Nat)) (f : Nat) (s : BS) : Prop := s.out.getD f default = 0 ∧ ∀ j, j < s.out.length → j ≠ f → 0 ≤ s.out.getD j default → ∃ x, (x, j) ∈ l ∧ 0 ≤ s.out.getD x default ∧ s.out.getD j default = s.out.getD x default + 1
section
variable {n : Nat} {l : List (Nat × Nat)} {f : Nat} (hn : n ≤ 64) (hg : Good n l)
include hg
theorem Par.j {s : BS} (h : BI n l f s) (hp : Par l f s) {x j : Nat} (hx : x < n) (hx0 : 0 ≤ s.out.getD x default) (hj : (x, j) ∈ l) : Par l f (bJ x s j) := by
  obtain ⟨_, h2, _, _, _, _⟩ := h.j hg hx hx0 hj
  refine ⟨by rw [h2 f (by rw [hp.1]; decide)]; exact hp.1, fun y hyl hy hy0 => ?_⟩
  have hyl : y < s.out.length := by
    unfold bJ at hyl
    split at hyl
    · simpa using hyl
    · exact hyl
  by_cases hold : 0 ≤ s.out.getD y default
  · obtain ⟨z, h3, h4, h5⟩ := hp.2 y hyl hy hold
    exact ⟨z, h3, by rw [h2 z h4]; exact h4, by rw [h2 z h4, h2 y hold]; exact h5⟩
  · by_cases e : y = j
    · subst e
      refine ⟨x, hj, by rw [h2 x hx0]; exact hx0, ?_⟩
      rw [h2 x hx0]
      unfold bJ
      rw [if_pos (by omega)]
      show (s.out.set y _).getD y default = _
      rw [set_getD, if_pos ⟨rfl, by rw [h.len]; exact (hg _ hj).2⟩]
    · exfalso
      unfold bJ at hy0
      split at hy0
      · simp only at hy0
        rw [set_getD, if_neg (fun h => e h.1.symm)] at hy0
        exact hold hy0
      · exact hold hy0
theorem Par.js {x : Nat} (hx : x < n) : ∀ (L : List Nat) (s : BS), BI n l f s → Par l f s → 0 ≤ s.out.getD x default → (∀ j ∈ L, (x, j) ∈ l) → Par l f (L.foldl (bJ x) s) := by
  intro L
  induction L with
  | nil => intro s _ h _ _; exact h
  | cons j L ih =>
    intro s h hp hx0 hL
    obtain ⟨h1, h2, _, _, _, _⟩ := h.j hg hx hx0 (hL j (by simp))
    exact ih _ h1 (hp.j hg h hx hx0 (hL j (by simp))) (by rw [h2 x hx0]; exact hx0) fun y hy => hL y (by simp [hy])
include hn
end
/-- A tree: one line less than points, and all hang together. -/
structure Tree (n : Nat) (l : List (Nat × Nat)) : Prop where
  good : Good n l
  len : l.length + 1 = n
  all : ∀ i j, i < n → j < n → Path (symL l) i j
/-- How far two points of a tree are. -/
def dT (n : Nat) (l : List (Nat × Nat)) (f x : Nat) : Nat := ((farL n l f).getD x default).toNat
section
variable {n : Nat} {l : List (Nat × Nat)} (hn : n ≤ 64) (h : Tree n l)
include hn h
end
section
variable {n : Nat} {l : List (Nat × Nat)} (hn : n ≤ 64) (h : Tree n l) {w : Nat → Nat} {b D : Nat} (hb : b < n) (hw : ∀ i, i ≤ D → w i < n) (hs : ∀ i, i < D → (w i, w (i + 1)) ∈ symL l) (hd : ∀ i, i ≤ D → dT n l b (w i) = D - i)
include hn h hb hw hs hd
end
/-- Of each point the one on the way to a root. -/
def upI (far : List Int) (out : List Int) (q : Nat × Nat) : List Int := if far.getD q.1 default < far.getD q.2 default then out.set q.2 (q.1 : Int) else out.set q.1 (q.2 : Int)
def upL (n : Nat) (l : List (Nat × Nat)) (f : Nat) : List Int := l.foldl (upI (farL n l f)) ((List.replicate n 0).set f (-1))
def itN (p : Nat → Nat) (a : Nat) : Nat → Nat
  | 0 => a
  | i + 1 => p (itN p a i)
section
variable {n : Nat} {l : List (Nat × Nat)} (hn : n ≤ 64) (h : Tree n l)
include hn h
end
end Go.Proofs

namespace Go.Proofs
open Go.Aw
section
variable {n : Nat} {R : List (Nat × Nat)} (hg : Good n R) (ht : ∀ a b c, (a, b) ∈ R → (b, c) ∈ R → (a, c) ∈ R)
include hg ht
end
end Go.Proofs

namespace Go.Proofs
open Go.Aw
set_option linter.unusedVariables false
def far0 (L : List (Int × Int)) (either : Bool) (over : Int) (a b : Nat) : Int :=
  if a = b then 0 else if ((a : Int) ≠ over ∧ (b : Int) ≠ over) ∧ (((a : Int), (b : Int)) ∈ L ∨ (either = true ∧ ((b : Int), (a : Int)) ∈ L)) then 1 else -1
def updF (F : Nat → Nat → Int) (a b : Nat) (v : Int) (i j : Nat) : Int := if i = a ∧ j = b then v else F i j
def relF (F : Nat → Nat → Int) (k a b : Nat) : Nat → Nat → Int := if 0 ≤ F a k ∧ 0 ≤ F k b ∧ (F a b < 0 ∨ F a k + F k b < F a b) then updF F a b (F a k + F k b) else F
def farB (F : Nat → Nat → Int) (k a : Nat) : Nat → Nat → Nat → Int
  | 0 => F
  | b + 1 => relF (farB F k a b) k a b
def farA (n : Nat) (F : Nat → Nat → Int) (k : Nat) : Nat → Nat → Nat → Int
  | 0 => F
  | a + 1 => farB (farA n F k a) k a n
def farK (n : Nat) (F : Nat → Nat → Int) : Nat → Nat → Nat → Int
  | 0 => F
  | k + 1 => farA n (farK n F k) k n
structure MidF (F : Nat → Nat → Int) (k : Nat) : Prop where
  all : ∀ i j, F i j ≤ 2 ^ (k + 1)
  col : ∀ i, F i k ≤ 2 ^ k
  row : ∀ j, F k j ≤ 2 ^ k
  lo : ∀ i j, -1 ≤ F i j
theorem MidF.rel {F : Nat → Nat → Int} {k : Nat} (h : MidF F k) (a b : Nat) : MidF (relF F k a b) k := by
  unfold relF
  by_cases hc : 0 ≤ F a k ∧ 0 ≤ F k b ∧ (F a b < 0 ∨ F a k + F k b < F a b)
  · rw [if_pos hc]
    obtain ⟨h1, h2, h3⟩ := hc
    have hb : b ≠ k := fun e => by subst e; omega
    have ha : a ≠ k := fun e => by subst e; omega
    have e2 : (2 : Int) ^ (k + 1) = 2 ^ k + 2 ^ k := by rw [Int.pow_succ]; omega
    have c1 := h.col a
    have c2 := h.row b
    refine ⟨fun i j => ?_, fun i => ?_, fun j => ?_, fun i j => ?_⟩ <;> unfold updF
    · split
      · omega
      · exact h.all i j
    · rw [if_neg (fun e => hb e.2.symm)]; exact h.col i
    · rw [if_neg (fun e => ha e.1.symm)]; exact h.row j
    · split
      · omega
      · exact h.lo i j
  · rw [if_neg hc]; exact h
theorem MidF.b {F : Nat → Nat → Int} {k : Nat} (h : MidF F k) (a : Nat) : ∀ b, MidF (farB F k a b) k := by
  intro b
  induction b with
  | zero => exact h
  | succ b ih => exact ih.rel a b
theorem MidF.a {F : Nat → Nat → Int} {n k : Nat} (h : MidF F k) : ∀ a, MidF (farA n F k a) k := by
  intro a
  induction a with
  | zero => exact h
  | succ a ih => exact ih.b a n
end Go.Proofs

namespace Go.Proofs
open Go.Aw
end Go.Proofs

namespace Go.Proofs
open Go.Aw
section
variable {n : Nat} {l : List (Nat × Nat)} (hn : n ≤ 64) (hg : Good n l)
include hn hg
end
end Go.Proofs

namespace Go.Proofs
open Go.Aw
/-- Pairs that a test lets through, row by row. -/
def closC (c : Nat → Nat → Bool) (a b : Nat) : List (Nat × Nat) := ((List.range b).filter (c a)).map fun y => (a, y)
def closR (c : Nat → Nat → Bool) (n a : Nat) : List (Nat × Nat) := (List.range a).flatMap fun x => closC c x n
/-- No point stands between. -/
def shortK (A : List (Nat × Nat)) (p : Nat × Nat) (k : Nat) : Bool := (List.range k).all fun k => !(decide ((p.1, k) ∈ A) && decide ((k, p.2) ∈ A))
def fewC (c : Nat → Nat → Bool) (n : Nat) : List (Nat × Nat) := (closR c n n).filter fun p => shortK (closR c n n) p n
section
variable {n : Nat} {l : List (Nat × Nat)} (hn : n ≤ 64) (hg : Good n l) {c : Nat → Nat → Bool} (hc : ∀ i j, i < n → j < n → (c i j = true ↔ Path1 l i j))
include hn hg hc
end
end Go.Proofs

namespace Go.Proofs
open Go.Aw
/-- Whole sets: what the search makes of the most. -/
def whJ (f : Nat → Nat → Nat → Nat → Nat) (nb : List Nat) (has : Nat) (s : Nat × Nat × Nat) (i : Nat) : Nat × Nat × Nat := (dif s.1 (2 ^ i), s.2.1 ||| 2 ^ i, f (has ||| 2 ^ i) (s.1 &&& nb.getD i default) (s.2.1 &&& nb.getD i default) s.2.2)
def whF (nb : List Nat) : Nat → Nat → Nat → Nat → Nat → Nat
  | 0, _, _, _, most => most
  | k + 1, has, may, no, most => if may = 0 then (if no = 0 then max most (pts has).length else most) else ((pts may).foldl (whJ (whF nb k) nb has) (may, no, most)).2.2
theorem whF_mono (nb : List Nat) : ∀ (k has may no most : Nat), most ≤ whF nb k has may no most := by
  intro k
  induction k with
  | zero => intro _ _ _ _; exact Nat.le_refl _
  | succ k ih =>
    intro has may no most
    unfold whF
    split
    · split
      · exact Nat.le_max_left _ _
      · exact Nat.le_refl _
    · have key : ∀ (L : List Nat) (s : Nat × Nat × Nat), s.2.2 ≤ (L.foldl (whJ (whF nb k) nb has) s).2.2 := by
        intro L
        induction L with
        | nil => intro s; exact Nat.le_refl _
        | cons i L ihL => intro s; rw [List.foldl_cons]; exact Nat.le_trans (ih _ _ _ _) (ihL (whJ (whF nb k) nb has s i))
      exact key _ (may, no, most)
theorem whJ_mono (nb : List Nat) (k has : Nat) : ∀ (L : List Nat) (s : Nat × Nat × Nat), s.2.2 ≤ (L.foldl (whJ (whF nb k) nb has) s).2.2 := by
  intro L
  induction L with
  | nil => intro s; exact Nat.le_refl _
  | cons i L ihL => intro s; rw [List.foldl_cons]; exact Nat.le_trans (whF_mono nb k _ _ _ _) (ihL (whJ (whF nb k) nb has s i))
/-- All beside each other. -/
def Clq (nb : List Nat) (Q : Nat) : Prop := ∀ i j, Q.testBit i = true → Q.testBit j = true → i ≠ j → (nb.getD i default).testBit j = true
def AdjAll (nb : List Nat) (has x : Nat) : Prop := ∀ i, has.testBit i = true → (nb.getD i default).testBit x = true
section
variable {nb : List Nat} {n : Nat} (hn : n ≤ 64) (hsym : ∀ i j, (nb.getD i default).testBit j = true → (nb.getD j default).testBit i = true) (hirr : ∀ i, (nb.getD i default).testBit i = false)
theorem or_bit (s i j : Nat) : (s ||| 2 ^ i).testBit j = true ↔ s.testBit j = true ∨ i = j := by
  rw [Nat.testBit_or, Bool.or_eq_true, two_pow_bit]
include hsym
theorem wh_sound : ∀ (k has may no most : Nat), (∀ x, has.testBit x = true → x < n) → (∀ x, may.testBit x = true → x < n) → Clq nb has → (∀ x, may.testBit x = true → AdjAll nb has x) → whF nb k has may no most = most ∨ ∃ Q, (∀ x, Q.testBit x = true → x < n) ∧ Clq nb Q ∧ whF nb k has may no most = (pts Q).length := by
  intro k
  induction k with
  | zero => intro _ _ _ _ _ _ _ _; exact .inl rfl
  | succ k ih =>
    intro has may no most h1 h2 h3 h4
    unfold whF
    split
    · split
      · rcases Nat.le_total most (pts has).length with h | h
        · exact .inr ⟨has, h1, h3, Nat.max_eq_right h⟩
        · exact .inl (Nat.max_eq_left h)
      · exact .inl rfl
    · have key : ∀ (L : List Nat) (s : Nat × Nat × Nat), (∀ i ∈ L, may.testBit i = true) → (∀ x, s.1.testBit x = true → may.testBit x = true) → (L.foldl (whJ (whF nb k) nb has) s).2.2 = s.2.2 ∨ ∃ Q, (∀ x, Q.testBit x = true → x < n) ∧ Clq nb Q ∧ (L.foldl (whJ (whF nb k) nb has) s).2.2 = (pts Q).length := by
        intro L
        induction L with
        | nil => intro s _ _; exact .inl rfl
        | cons i L ihL =>
          intro s hL hs
          rw [List.foldl_cons]
          have hi := hL i (by simp)
          have hia := h4 i hi
          have g1 := ih (has ||| 2 ^ i) (s.1 &&& nb.getD i default) (s.2.1 &&& nb.getD i default) s.2.2 (fun x hx => by
            rcases (or_bit has i x).1 hx with h | h
            · exact h1 x h
            · rw [← h]; exact h2 i hi) (fun x hx => by
            rw [Nat.testBit_and, Bool.and_eq_true] at hx
            exact h2 x (hs x hx.1)) (fun a b ha hb hab => by
            rcases (or_bit has i a).1 ha with ha | ha <;> rcases (or_bit has i b).1 hb with hb | hb
            · exact h3 a b ha hb hab
            · subst hb; exact hia a ha
            · subst ha; exact hsym _ _ (hia b hb)
            · exact absurd (ha.symm.trans hb) hab) (fun x hx a ha => by
            rw [Nat.testBit_and, Bool.and_eq_true] at hx
            rcases (or_bit has i a).1 ha with ha | ha
            · exact h4 x (hs x hx.1) a ha
            · rw [← ha]; exact hx.2)
          have g2 := ihL (whJ (whF nb k) nb has s i) (fun j hj => hL j (by simp [hj])) (fun x hx => by
            have hx : (dif s.1 (2 ^ i)).testBit x = true := hx
            rw [dif_bit, Bool.and_eq_true] at hx
            exact hs x hx.1)
          rcases g2 with g2 | g2
          · rcases g1 with g1 | ⟨Q, q1, q2, q3⟩
            · left; rw [g2]; exact g1
            · right; exact ⟨Q, q1, q2, by rw [g2]; exact q3⟩
          · exact .inr g2
      exact key _ (may, no, most) (fun i hi => ((pts_mem _ _).1 hi).2) (fun x hx => hx)
include hn hirr
omit hsym in
theorem wh_full (Q : Nat) (hQn : ∀ x, Q.testBit x = true → x < n) (hQ : Clq nb Q) (hmax : ∀ x, x < n → AdjAll nb Q x → Q.testBit x = true) : ∀ (k has may no most : Nat), (pts may).length < k → (∀ x, may.testBit x = true → x < n) → (∀ x, no.testBit x = true → x < n) → (∀ x, has.testBit x = true → Q.testBit x = true) → (∀ x, Q.testBit x = true → has.testBit x = true ∨ may.testBit x = true) → (∀ x, may.testBit x = true → AdjAll nb has x) → (∀ x, no.testBit x = true → AdjAll nb has x) → (pts Q).length ≤ whF nb k has may no most := by
  intro k
  induction k with
  | zero => intro _ may _ _ h; omega
  | succ k ih =>
    intro has may no most hk hmay hno h1 h2 h3 h4
    -- nobody stands beside all of the set
    have hout : ∀ x, x < n → AdjAll nb Q x → False := fun x hx ha => by
      have h5 := hmax x hx ha
      have h6 := ha x h5
      rw [hirr x] at h6; cases h6
    unfold whF
    by_cases hm : may = 0
    · rw [if_pos hm]
      have hQh : ∀ x, Q.testBit x = true ↔ has.testBit x = true := fun x => ⟨fun h => (h2 x h).resolve_right (by rw [hm]; simp), h1 x⟩
      have hno0 : no = 0 := by
        refine Classical.byContradiction fun hne => ?_
        obtain ⟨x, hx⟩ := Nat.exists_testBit_of_ne_zero hne
        exact hout x (hno x hx) fun i hi => h4 x hx i ((hQh i).1 hi)
      rw [if_pos hno0]
      have e : pts Q = pts has := by
        unfold pts
        refine List.filter_congr fun x _ => ?_
        rw [Bool.eq_iff_iff]; exact hQh x
      rw [e]; exact Nat.le_max_right _ _
    · rw [if_neg hm]
      have hex : ∃ i ∈ pts may, Q.testBit i = true := by
        refine Classical.byContradiction fun hno' => ?_
        obtain ⟨x, hx⟩ := Nat.exists_testBit_of_ne_zero hm
        refine hout x (hmay x hx) fun i hi => h3 x hx i ?_
        refine (h2 i hi).resolve_right fun h => hno' ⟨i, (pts_mem _ _).2 ⟨by have := hQn i hi; omega, h⟩, hi⟩
      have key : ∀ (L : List Nat) (s : Nat × Nat × Nat), L.Nodup → (∀ i ∈ L, may.testBit i = true) → (∃ i ∈ L, Q.testBit i = true) → (∀ x, s.1.testBit x = true → may.testBit x = true) → (∀ x, s.2.1.testBit x = true → x < n ∧ AdjAll nb has x) → (∀ x, Q.testBit x = true → may.testBit x = true → s.1.testBit x = true) → (pts Q).length ≤ (L.foldl (whJ (whF nb k) nb has) s).2.2 := by
        intro L
        induction L with
        | nil => rintro s _ _ ⟨i, hi, _⟩; cases hi
        | cons i L ihL =>
          intro s hnd hL hexi hs1 hs2 hs3
          rw [List.foldl_cons]
          have hi := hL i (by simp)
          by_cases hiQ : Q.testBit i = true
          · refine Nat.le_trans ?_ (whJ_mono nb k has L _)
            refine ih (has ||| 2 ^ i) (s.1 &&& nb.getD i default) (s.2.1 &&& nb.getD i default) s.2.2 ?_ ?_ ?_ ?_ ?_ ?_ ?_
            · have := pig (L := i :: pts (s.1 &&& nb.getD i default)) (M := pts may) (by
                rw [List.nodup_cons]
                refine ⟨fun h => ?_, pts_nodup _⟩
                have := ((pts_mem _ _).1 h).2
                rw [Nat.testBit_and, Bool.and_eq_true, hirr i] at this
                cases this.2) (fun x hx => by
                rcases List.mem_cons.1 hx with rfl | hx
                · exact (pts_mem _ _).2 ⟨by have := hmay x hi; omega, hi⟩
                · obtain ⟨a1, a2⟩ := (pts_mem _ _).1 hx
                  rw [Nat.testBit_and, Bool.and_eq_true] at a2
                  exact (pts_mem _ _).2 ⟨a1, hs1 x a2.1⟩)
              rw [List.length_cons] at this
              omega
            · intro x hx
              rw [Nat.testBit_and, Bool.and_eq_true] at hx
              exact hmay x (hs1 x hx.1)
            · intro x hx
              rw [Nat.testBit_and, Bool.and_eq_true] at hx
              exact (hs2 x hx.1).1
            · intro x hx
              rcases (or_bit has i x).1 hx with h | h
              · exact h1 x h
              · rw [← h]; exact hiQ
            · intro x hx
              by_cases hxi : i = x
              · exact .inl ((or_bit has i x).2 (.inr hxi))
              · rcases h2 x hx with h | h
                · exact .inl ((or_bit has i x).2 (.inl h))
                · right
                  rw [Nat.testBit_and, Bool.and_eq_true]
                  exact ⟨hs3 x hx h, hQ i x hiQ hx hxi⟩
            · intro x hx a ha
              rw [Nat.testBit_and, Bool.and_eq_true] at hx
              rcases (or_bit has i a).1 ha with ha | ha
              · exact h3 x (hs1 x hx.1) a ha
              · rw [← ha]; exact hx.2
            · intro x hx a ha
              rw [Nat.testBit_and, Bool.and_eq_true] at hx
              rcases (or_bit has i a).1 ha with ha | ha
              · exact (hs2 x hx.1).2 a ha
              · rw [← ha]; exact hx.2
          · have hnd' := List.nodup_cons.1 hnd
            refine ihL (whJ (whF nb k) nb has s i) hnd'.2 (fun j hj => hL j (by simp [hj])) ?_ ?_ ?_ ?_
            · obtain ⟨j, hj, hjQ⟩ := hexi
              rcases List.mem_cons.1 hj with rfl | hj
              · exact absurd hjQ hiQ
              · exact ⟨j, hj, hjQ⟩
            · intro x hx
              have hx : (dif s.1 (2 ^ i)).testBit x = true := hx
              rw [dif_bit, Bool.and_eq_true] at hx
              exact hs1 x hx.1
            · intro x hx
              have hx : (s.2.1 ||| 2 ^ i).testBit x = true := hx
              rcases (or_bit _ i x).1 hx with h | h
              · exact hs2 x h
              · rw [← h]; exact ⟨hmay i hi, h3 i hi⟩
            · intro x hx hxm
              show (dif s.1 (2 ^ i)).testBit x = true
              rw [dif_bit, Bool.and_eq_true, Bool.not_eq_true', ← Bool.not_eq_true, two_pow_bit]
              exact ⟨hs3 x hx hxm, fun e => hiQ (by rw [e]; exact hx)⟩
      exact key (pts may) (may, no, most) (pts_nodup _) (fun i hi => ((pts_mem _ _).1 hi).2) hex (fun x hx => hx) (fun x hx => ⟨hno x hx, h4 x hx⟩) (fun x _ hx => hx)
end
theorem inj_of2 {α β : Type} {f : α → β} {l : List α} (hn : (l.map f).Nodup) {a b : α} (ha : a ∈ l) (hb : b ∈ l) (e : f a = f b) : a = b := by
  obtain ⟨i, hi, rfl⟩ := List.mem_iff_getElem.1 ha
  obtain ⟨j, hj, rfl⟩ := List.mem_iff_getElem.1 hb
  have h : (l.map f)[i]'(by simpa using hi) = (l.map f)[j]'(by simpa using hj) := by rw [List.getElem_map, List.getElem_map]; exact e
  have := (List.getElem_inj hn).1 h
  subst this; rfl
/-- Pairs of two sides, and points apart. -/
def sideL (c : Nat → Bool) (l : List (Nat × Nat)) : List (Nat × Nat) := l.map fun p => if c p.1 then (p.2, p.1) else p
def Apt (n : Nat) (l : List (Nat × Nat)) (T : List Nat) : Prop := T.Nodup ∧ (∀ t ∈ T, t < n) ∧ ∀ t ∈ T, ∀ u ∈ T, (t, u) ∉ l
theorem side_mem {c : Nat → Bool} {l : List (Nat × Nat)} (hc : ∀ a b, (a, b) ∈ l → c a ≠ c b) {x y : Nat} (h : (x, y) ∈ sideL c l) : c x = false ∧ c y = true ∧ ((x, y) ∈ l ∨ (y, x) ∈ l) := by
  obtain ⟨⟨a, b⟩, hp, e⟩ := List.mem_map.1 h
  have := hc a b hp
  simp only at e
  cases hca : c a <;> cases hcb : c b <;> rw [hca] at e this <;> rw [hcb] at this
  · exact absurd rfl this
  · rw [if_neg (by decide), Prod.mk.injEq] at e
    rw [← e.1, ← e.2]; exact ⟨hca, hcb, .inl hp⟩
  · rw [if_pos rfl, Prod.mk.injEq] at e
    rw [← e.1, ← e.2]; exact ⟨hcb, hca, .inr hp⟩
  · exact absurd rfl this
theorem apt_le {n m : Nat} {c : Nat → Bool} {l : List (Nat × Nat)} (hg : Good n l) (hc : ∀ a b, (a, b) ∈ l → c a ≠ c b) (hm : MN (sideL c l) m) {T : List Nat} (hT : Apt n l T) : T.length + m ≤ n := by
  obtain ⟨⟨M, h1, rfl⟩, _⟩ := hm
  have hs := fun p (hp : p ∈ M) => side_mem hc (h1.sub p hp)
  -- of each pair one that is not among them
  let f : Nat × Nat → Nat := fun p => if p.1 ∈ T then p.2 else p.1
  have hf : ∀ p, f p = p.1 ∧ p.1 ∉ T ∨ f p = p.2 ∧ p.1 ∈ T := fun p => by
    show (if _ then _ else _) = _ ∧ _ ∨ (if _ then _ else _) = _ ∧ _
    by_cases h : p.1 ∈ T
    · rw [if_pos h]; exact .inr ⟨rfl, h⟩
    · rw [if_neg h]; exact .inl ⟨rfl, h⟩
  have hfT : ∀ p ∈ M, f p ∉ T := fun p hp ht => by
    rcases hf p with ⟨e, h⟩ | ⟨e, h⟩
    · rw [e] at ht; exact h ht
    · rw [e] at ht
      rcases (hs p hp).2.2 with h2 | h2
      · exact hT.2.2 _ h _ ht h2
      · exact hT.2.2 _ ht _ h h2
  have hnd : (M.map f ++ T).Nodup := by
    rw [List.nodup_append]
    refine ⟨?_, hT.1, fun x hx y hy e => ?_⟩
    · have hM : M.Nodup := by
        have h0 : (M.map Prod.fst).Nodup := h1.fst
        rw [List.Nodup, List.pairwise_map] at h0
        exact h0.imp fun hne e => hne (by rw [e])
      rw [List.Nodup, List.pairwise_map]
      refine List.Pairwise.imp_of_mem ?_ hM
      intro p q hp hq hne e
      obtain ⟨p1, p2, _⟩ := hs p hp
      obtain ⟨q1, q2, _⟩ := hs q hq
      rcases hf p with ⟨ep, _⟩ | ⟨ep, _⟩ <;> rcases hf q with ⟨eq, _⟩ | ⟨eq, _⟩ <;> rw [ep, eq] at e
      · exact hne (inj_of2 h1.fst hp hq e)
      · rw [e, q2] at p1; cases p1
      · rw [e, q1] at p2; cases p2
      · exact hne (inj_of2 h1.snd hp hq e)
    · subst e
      obtain ⟨p, hp, rfl⟩ := List.mem_map.1 hx
      exact hfT p hp hy
  have hsub : ∀ x ∈ M.map f ++ T, x ∈ List.range n := fun x hx => by
    rw [List.mem_range]
    rcases List.mem_append.1 hx with hx | hx
    · obtain ⟨p, hp, rfl⟩ := List.mem_map.1 hx
      have h2 : p.1 < n ∧ p.2 < n := by
        rcases (hs p hp).2.2 with h | h
        · exact hg _ h
        · exact (hg _ h).symm
      rcases hf p with ⟨e, _⟩ | ⟨e, _⟩ <;> rw [e]
      · exact h2.1
      · exact h2.2
    · exact hT.2.1 x hx
  have := pig hnd hsub
  rw [List.length_append, List.length_map, List.length_range] at this
  omega
theorem apt_ge {n m : Nat} {c : Nat → Bool} {l : List (Nat × Nat)} (hc : ∀ a b, (a, b) ∈ l → c a ≠ c b) (hm : MN (sideL c l) m) : ∃ T, Apt n l T ∧ n ≤ T.length + m := by
  obtain ⟨_, A, B, h5, rfl⟩ := hm
  let P : Nat → Bool := fun v => if c v then !decide (v ∈ B) else !decide (v ∈ A)
  refine ⟨(List.range n).filter P, ⟨List.Pairwise.filter _ List.nodup_range, fun t ht => List.mem_range.1 (List.mem_filter.1 ht).1, fun t ht u hu htu => ?_⟩, ?_⟩
  · have h1 := (List.mem_filter.1 ht).2
    have h2 := (List.mem_filter.1 hu).2
    have hne := hc t u htu
    have h1 : (if c t then !decide (t ∈ B) else !decide (t ∈ A)) = true := h1
    have h2 : (if c u then !decide (u ∈ B) else !decide (u ∈ A)) = true := h2
    have hs : (if c t then (u, t) else (t, u)) ∈ sideL c l := List.mem_map.2 ⟨(t, u), htu, rfl⟩
    cases hct : c t <;> cases hcu : c u <;> rw [hct] at h1 hs hne <;> rw [hcu] at h2 hne
    · exact hne rfl
    · simp only [Bool.false_eq_true, if_false] at h1 hs
      simp only [if_true] at h2
      rcases h5 _ hs with h | h
      · simp at h1; exact h1 h
      · simp at h2; exact h2 h
    · simp only [if_true] at h1 hs
      simp only [Bool.false_eq_true, if_false] at h2
      rcases h5 _ hs with h | h
      · simp at h2; exact h2 h
      · simp at h1; exact h1 h
    · exact hne rfl
  · have hs := List.length_eq_countP_add_countP P (l := List.range n)
    rw [List.length_range, List.countP_eq_length_filter] at hs
    have hp : ((List.range n).countP fun v => decide ¬ P v = true) ≤ (A ++ B).length := by
      rw [List.countP_eq_length_filter]
      refine pig (List.Pairwise.filter _ List.nodup_range) fun v hv => ?_
      have h1 := (List.mem_filter.1 hv).2
      have h1 : ¬ P v = true := of_decide_eq_true h1
      have h1 : ¬ (if c v then !decide (v ∈ B) else !decide (v ∈ A)) = true := h1
      rw [List.mem_append]
      cases hcv : c v <;> rw [hcv] at h1
      · simp at h1; exact .inl h1
      · simp at h1; exact .inr h1
    rw [List.length_append] at hp
    omega
/-- The search finds as many as there are points, less the pairs. -/
theorem wh_pairs {n m : Nat} {c : Nat → Bool} {l : List (Nat × Nat)} {nb : List Nat} (hn : n ≤ 64) (hg : Good n l) (hc : ∀ a b, (a, b) ∈ l → c a ≠ c b) (hm : MN (sideL c l) m)
    (hnb : ∀ i j, (nb.getD i default).testBit j = true ↔ i < n ∧ j < n ∧ i ≠ j ∧ (i, j) ∉ l ∧ (j, i) ∉ l) : whF nb (n + 1) 0 (2 ^ n - 1) 0 0 + m = n := by
  have hsym : ∀ i j, (nb.getD i default).testBit j = true → (nb.getD j default).testBit i = true := fun i j h => by
    obtain ⟨a, b, d, e, f⟩ := (hnb i j).1 h
    exact (hnb j i).2 ⟨b, a, fun h => d h.symm, f, e⟩
  have hirr : ∀ i, (nb.getD i default).testBit i = false := fun i => by
    rw [← Bool.not_eq_true]
    intro h
    exact ((hnb i i).1 h).2.2.1 rfl
  have hloop : ∀ a, (a, a) ∉ l := fun a h => hc a a h rfl
  have hbel : ∀ x, (2 ^ n - 1).testBit x = true ↔ x < n := fun x => by
    rw [Nat.testBit_two_pow_sub_one, decide_eq_true_eq]
  have hz : ∀ x, ¬ (Nat.testBit 0 x = true) := fun x => by simp
  have up : whF nb (n + 1) 0 (2 ^ n - 1) 0 0 + m ≤ n := by
    rcases wh_sound hsym (n := n) (n + 1) 0 (2 ^ n - 1) 0 0 (fun x h => absurd h (hz x)) (fun x h => (hbel x).1 h) (fun i _ h => absurd h (hz i)) (fun x _ i h => absurd h (hz i)) with h | ⟨Q, q1, q2, q3⟩
    · rw [h]
      have := apt_le hg hc hm (T := []) ⟨by simp, by simp, by simp⟩
      simpa using this
    · rw [q3]
      refine apt_le hg hc hm ⟨pts_nodup Q, fun t ht => q1 t ((pts_mem _ _).1 ht).2, fun t ht u hu htu => ?_⟩
      by_cases e : t = u
      · subst e; exact hloop t htu
      · exact ((hnb t u).1 (q2 t u ((pts_mem _ _).1 ht).2 ((pts_mem _ _).1 hu).2 e)).2.2.2.1 htu
  obtain ⟨T, hT, hTl⟩ := apt_ge (n := n) hc hm
  have hTn := apt_le hg hc hm hT
  have hQb : ∀ x, (addAll 0 T).testBit x = true ↔ x ∈ T := fun x => by
    rw [addAll_bit]
    exact ⟨fun h => h.elim (fun h => absurd h (hz x)) id, .inr⟩
  have hQl : (pts (addAll 0 T)).length = T.length := by
    have a1 := pig (L := pts (addAll 0 T)) (M := T) (pts_nodup _) (fun x hx => (hQb x).1 ((pts_mem _ _).1 hx).2)
    have a2 := pig (L := T) (M := pts (addAll 0 T)) hT.1 (fun x hx => (pts_mem _ _).2 ⟨by have := hT.2.1 x hx; omega, (hQb x).2 hx⟩)
    omega
  have dn := wh_full hn hirr (addAll 0 T) (fun x hx => hT.2.1 x ((hQb x).1 hx)) (fun i j hi hj hij => by
    have hi := (hQb i).1 hi
    have hj := (hQb j).1 hj
    exact (hnb i j).2 ⟨hT.2.1 i hi, hT.2.1 j hj, hij, hT.2.2 i hi j hj, hT.2.2 j hj i hi⟩) (fun x hx hadj => by
    refine Classical.byContradiction fun hno => ?_
    have hxT : x ∉ T := fun h => hno ((hQb x).2 h)
    have hax : ∀ t ∈ T, (t, x) ∉ l ∧ (x, t) ∉ l := fun t ht => ((hnb t x).1 (hadj t ((hQb t).2 ht))).2.2.2
    have := apt_le hg hc hm (T := x :: T) ⟨List.nodup_cons.2 ⟨hxT, hT.1⟩, fun t ht => by
      rcases List.mem_cons.1 ht with rfl | ht
      · exact hx
      · exact hT.2.1 t ht, fun t ht u hu => by
      rcases List.mem_cons.1 ht with e1 | ht <;> rcases List.mem_cons.1 hu with e2 | hu
      · rw [e1, e2]; exact hloop x
      · rw [e1]; exact (hax u hu).2
      · rw [e2]; exact (hax t ht).1
      · exact hT.2.2 t ht u hu⟩
    rw [List.length_cons] at this
    omega) (n + 1) 0 (2 ^ n - 1) 0 0 (by
    have := pig (L := pts (2 ^ n - 1)) (M := List.range n) (pts_nodup _) (fun x hx => List.mem_range.2 ((hbel x).1 ((pts_mem _ _).1 hx).2))
    rw [List.length_range] at this
    omega) (fun x h => (hbel x).1 h) (fun x h => absurd h (hz x)) (fun x h => absurd h (hz x)) (fun x h => .inr ((hbel x).2 (hT.2.1 x ((hQb x).1 h)))) (fun x _ i h => absurd h (hz i)) (fun x h => absurd h (hz x))
  omega
/-- Are so many colours enough, for the points from one on? -/
def freeC (nb : List Nat) (out : List Nat) (c : Nat) : Bool := (List.range out.length).all fun j => !decide (out.getD j default = c) || !(nb.getD out.length default).testBit j
def canF (nb : List Nat) (many : Nat) : Nat → List Nat → Bool
  | 0, _ => true
  | k + 1, out => (List.range many).any fun c => freeC nb out c && canF nb many k (out ++ [c])
/-- Colours that are right. -/
def Colr (nb : List Nat) (n many : Nat) (col : Nat → Nat) : Prop := (∀ i, i < n → col i < many) ∧ ∀ i j, j < i → i < n → (nb.getD i default).testBit j = true → col j ≠ col i
theorem can_sound {nb : List Nat} {n many : Nat} : ∀ (k : Nat) (out : List Nat), out.length + k = n → (∀ x ∈ out, x < many) → (∀ i j, j < i → i < out.length → (nb.getD i default).testBit j = true → out.getD j default ≠ out.getD i default) → canF nb many k out = true → ∃ col, Colr nb n many col := by
  intro k
  induction k with
  | zero =>
    intro out hl hb hr _
    refine ⟨fun i => out.getD i default, fun i hi => ?_, fun i j hj hi h => hr i j hj (by omega) h⟩
    show out.getD i default < many
    rw [List.getD_eq_getElem?_getD, List.getElem?_eq_getElem (by omega)]
    exact hb _ (List.getElem_mem _)
  | succ k ih =>
    intro out hl hb hr h
    unfold canF at h
    rw [List.any_eq_true] at h
    obtain ⟨c, hc, h⟩ := h
    rw [Bool.and_eq_true] at h
    refine ih (out ++ [c]) (by simp; omega) (fun x hx => ?_) (fun i j hj hi hadj => ?_) h.2
    · rcases List.mem_append.1 hx with hx | hx
      · exact hb x hx
      · rw [List.mem_singleton] at hx; rw [hx]; exact List.mem_range.1 hc
    · rw [List.length_append, List.length_singleton] at hi
      have e1 : (out ++ [c]).getD j default = out.getD j default := by
        rw [List.getD_eq_getElem?_getD, List.getElem?_append_left (by omega), ← List.getD_eq_getElem?_getD]
      rw [e1]
      by_cases e : i = out.length
      · subst e
        have e2 : (out ++ [c]).getD out.length default = c := by simp
        rw [e2]
        have hf := h.1
        unfold freeC at hf
        rw [List.all_eq_true] at hf
        have := hf j (List.mem_range.2 hj)
        rw [hadj] at this
        simpa using this
      · rw [List.getD_eq_getElem?_getD (l := out ++ [c]), List.getElem?_append_left (by omega), ← List.getD_eq_getElem?_getD]
        exact hr i j hj (by omega) hadj
theorem can_full {nb : List Nat} {n many : Nat} {col : Nat → Nat} (hcol : Colr nb n many col) : ∀ (k i : Nat), i + k = n → canF nb many k ((List.range i).map col) = true := by
  intro k
  induction k with
  | zero => intro _ _; rfl
  | succ k ih =>
    intro i hi
    unfold canF
    rw [List.any_eq_true]
    refine ⟨col i, List.mem_range.2 (hcol.1 i (by omega)), ?_⟩
    rw [Bool.and_eq_true]
    constructor
    · unfold freeC
      rw [List.all_eq_true]
      intro j hj
      rw [List.length_map, List.length_range] at hj ⊢
      have hj := List.mem_range.1 hj
      rw [range_getD _ hj]
      cases hb : (nb.getD i default).testBit j with
      | false => simp
      | true =>
        have := hcol.2 i j hj (by omega) hb
        simp [this]
    · have := ih (i + 1) (by omega)
      rw [List.range_succ, List.map_append] at this
      exact this
theorem can_iff {nb : List Nat} {n many : Nat} : canF nb many n [] = true ↔ ∃ col, Colr nb n many col := by
  constructor
  · exact can_sound n [] (by simp) (by simp) (by simp)
  · rintro ⟨col, h⟩
    exact can_full h n 0 (by omega)
theorem can_all (nb : List Nat) (n : Nat) : canF nb n n [] = true := can_iff.2 ⟨fun i => i, fun i hi => hi, fun i j hj _ _ => Nat.ne_of_lt hj⟩
/-- Two colours are enough just for two sides. -/
theorem can_two {n many : Nat} {l : List (Nat × Nat)} (hn : n ≤ 64) (hg : Good n l) (hs : ∀ a, (a, a) ∉ l) (hcan : canF (outS n (symL l)) many n [] = true) (hlow : ∀ k, 1 ≤ k → k < many → canF (outS n (symL l)) k n [] = false) : many ≤ 2 ↔ halfOk n l = true := by
  have hb := fun i j => outS_bit n (symL l) i j
  constructor
  · intro hm
    obtain ⟨col, h1, h2⟩ := can_iff.1 hcan
    refine (half_iff hn hg).2 ⟨fun i => decide (col i = 1), fun a b hab e => ?_⟩
    have hg' := hg _ hab
    have a1 := h1 a hg'.1
    have a2 := h1 b hg'.2
    have key : ∀ x y, x < y → y < n → (y, x) ∈ symL l → col x ≠ col y := fun x y hxy hy h => h2 y x hxy hy ((hb y x).2 ⟨hy, h⟩)
    have hne : col a ≠ col b := by
      rcases Nat.lt_trichotomy a b with h | h | h
      · exact key a b h hg'.2 (symL_mem.2 (.inr hab))
      · exact absurd (h ▸ hab) (hs a)
      · exact (key b a h hg'.1 (symL_mem.2 (.inl hab))).symm
    have e : decide (col a = 1) = decide (col b = 1) := e
    have e' : col a = 1 ↔ col b = 1 := by
      constructor
      · intro h; exact of_decide_eq_true (by rw [← e]; exact decide_eq_true h)
      · intro h; exact of_decide_eq_true (by rw [e]; exact decide_eq_true h)
    omega
  · intro hok
    obtain ⟨c, hc⟩ := (half_iff hn hg).1 hok
    refine Classical.byContradiction fun hm => ?_
    have h2 := hlow 2 (by omega) (by omega)
    have : canF (outS n (symL l)) 2 n [] = true := can_iff.2 ⟨fun i => if c i then 1 else 0, fun i _ => by show (if c i then 1 else 0) < 2; split <;> omega, fun i j _ _ h e => by
      have hm := ((hb i j).1 h).2
      have hne : c i ≠ c j := by
        rcases symL_mem.1 hm with h | h
        · exact hc i j h
        · exact (hc j i h).symm
      have e : (if c j then 1 else 0) = if c i then 1 else 0 := e
      revert e hne
      cases c i <;> cases c j <;> simp⟩
    rw [this] at h2; cases h2
end Go.Proofs

namespace Go.Proofs
open Go.Aw
/-- The greatest, and the least, of a row's first. -/
def maxK (l : List Int) : Nat → Int
  | 0 => l.getD 0 default
  | i + 1 => if l.getD (i + 1) default > maxK l i then l.getD (i + 1) default else maxK l i
def minK (l : List Int) : Nat → Int
  | 0 => l.getD 0 default
  | i + 1 => if l.getD (i + 1) default < minK l i then l.getD (i + 1) default else minK l i
def maxI (l : List Int) : Int := maxK l (l.length - 1)
def minI (l : List Int) : Int := minK l (l.length - 1)
/-- How far the farthest is. -/
def eccL (n : Nat) (l : List (Nat × Nat)) : List Int := (List.range n).map fun i => maxI (farL n l i)
def midL (n : Nat) (l : List (Nat × Nat)) : List Nat := (List.range n).filter fun i => decide ((eccL n l).getD i default = minI (eccL n l))
/-- The way, by steps. -/
def wayF (n : Nat) (l : List (Nat × Nat)) (b a : Nat) : Nat → Nat
  | 0 => a
  | i + 1 => ((upL n l b).getD (wayF n l b a i) default).toNat
def wayL (n : Nat) (l : List (Nat × Nat)) (a b : Nat) : List Nat := (List.range (dT n l b a + 1)).map (wayF n l b a)
section
variable {n : Nat} {l : List (Nat × Nat)} (hn : n ≤ 64) (h : Tree n l)
include hn h
end
/-- Whom a point has no line with. -/
def apN (n : Nat) (S : List Nat) : List Nat := (List.range n).map fun i => dif (dif (2 ^ n - 1) (2 ^ i)) (S.getD i default)
theorem apN_bit {n : Nat} {l : List (Nat × Nat)} (i j : Nat) : ((apN n (outS n (symL l))).getD i default).testBit j = true ↔ i < n ∧ j < n ∧ i ≠ j ∧ (i, j) ∉ l ∧ (j, i) ∉ l := by
  unfold apN
  by_cases hi : i < n
  · rw [range_getD _ hi, dif_bit, dif_bit, Bool.and_eq_true, Bool.and_eq_true, below_bit, Bool.not_eq_true', Bool.not_eq_true', ← Bool.not_eq_true, ← Bool.not_eq_true, two_pow_bit, outS_bit, symL_mem]
    constructor
    · rintro ⟨⟨h1, h2⟩, h3⟩
      exact ⟨hi, h1, h2, fun h => h3 ⟨hi, .inl h⟩, fun h => h3 ⟨hi, .inr h⟩⟩
    · rintro ⟨_, h1, h2, h3, h4⟩
      exact ⟨⟨h1, h2⟩, fun h => h.2.elim h3 h4⟩
  · rw [List.getD_eq_getElem?_getD, List.getElem?_eq_none (by simp; omega)]
    constructor
    · intro h
      have h : (0 : Nat).testBit j = true := h
      simp at h
    · intro h; exact absurd h.1 hi
/-- How few colours. -/
def colF (nb : List Nat) (n : Nat) : Nat → Nat → Nat
  | 0, m => m
  | k + 1, m => if canF nb m n [] = true then m else colF nb n k (m + 1)
def colN (nb : List Nat) (n : Nat) : Nat := colF nb n (n - 1) 1
theorem colF_spec (nb : List Nat) (n : Nat) : ∀ (k m : Nat), m + k = n → 1 ≤ m → (∀ i, 1 ≤ i → i < m → canF nb i n [] = false) → m ≤ colF nb n k m ∧ colF nb n k m ≤ n ∧ canF nb (colF nb n k m) n [] = true ∧ ∀ i, 1 ≤ i → i < colF nb n k m → canF nb i n [] = false := by
  intro k
  induction k with
  | zero =>
    intro m hm h1 h2
    obtain rfl : m = n := by omega
    exact ⟨Nat.le_refl _, Nat.le_refl _, can_all nb m, h2⟩
  | succ k ih =>
    intro m hm h1 h2
    unfold colF
    split
    · rename_i hc
      exact ⟨Nat.le_refl _, by omega, hc, h2⟩
    · rename_i hc
      obtain ⟨g1, g2, g3, g4⟩ := ih (m + 1) (by omega) (by omega) fun i hi hi2 => by
        by_cases e : i = m
        · rw [e]; simpa using hc
        · exact h2 i hi (by omega)
      exact ⟨by omega, g2, g3, g4⟩
theorem colN_spec (nb : List Nat) {n : Nat} (h : 0 < n) : 1 ≤ colN nb n ∧ colN nb n ≤ n ∧ canF nb (colN nb n) n [] = true ∧ ∀ i, 1 ≤ i → i < colN nb n → canF nb i n [] = false :=
  colF_spec nb n (n - 1) 1 (by omega) (Nat.le_refl _) fun i h1 h2 => by omega
end Go.Proofs

namespace Go.Proofs
open Go.Aw
/-- Whom some have lines to. -/
def nbrs (left right : Nat) (l : List (Nat × Nat)) (s : Nat) : Nat := (List.range right).countP fun j => (List.range left).any fun i => s.testBit i && decide ((i, j) ∈ l)
def someN (left s : Nat) : Nat := (List.range left).countP fun i => s.testBit i
section
variable {left right : Nat} {l : List (Nat × Nat)} (hl : Sides left right l)
include hl
end
end Go.Proofs
