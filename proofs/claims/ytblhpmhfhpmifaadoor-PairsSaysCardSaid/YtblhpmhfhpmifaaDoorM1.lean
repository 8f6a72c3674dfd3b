/- Part M 1 of what the proof of PairsSays stands on: plain facts of graphs and sets, with no program in sight. -/
import Derived.Test.YtblhpmhfhpmifaaDoorAw2
set_option linter.unusedVariables false
set_option linter.unusedSimpArgs false
namespace Go.Proofs
open Go.Aw
set_option linter.unusedSimpArgs false
def pts (s : Nat) : List Nat := (List.range 64).filter fun i => s.testBit i
def ptsI (s : Nat) : List Int := (pts s).map Int.ofNat

theorem pts_len (s : Nat) : (pts s).length ≤ 64 := by
  have := List.length_filter_le (fun i => s.testBit i) (List.range 64)
  simpa [pts] using this
theorem ptsI_len (s : Nat) : (ptsI s).length ≤ 64 := by simpa [ptsI] using pts_len s

def outF (s : List Nat) (p : Nat × Nat) : List Nat := s.set p.1 (s.getD p.1 default ||| 2 ^ p.2)
def outS (n : Nat) (l : List (Nat × Nat)) : List Nat := l.foldl outF (List.replicate n 0)
theorem outS_snoc (n : Nat) (l : List (Nat × Nat)) (p : Nat × Nat) : outS n (l ++ [p]) = outF (outS n l) p := by simp [outS]
theorem outS_len (n : Nat) (l : List (Nat × Nat)) : (outS n l).length = n := by
  unfold outS
  generalize h : List.replicate n 0 = s
  have hs : s.length = n := by rw [← h]; simp
  clear h
  induction l generalizing s with
  | nil => exact hs
  | cons p l ih => exact ih _ (by simp [outF, hs])
theorem outS_lt (n : Nat) (l : List (Nat × Nat)) (hl : ∀ p ∈ l, p.2 < 64) : ∀ x ∈ outS n l, x < 2 ^ 64 := by
  unfold outS
  generalize h : List.replicate n 0 = s
  have hs : ∀ x ∈ s, x < 2 ^ 64 := by rw [← h]; intro x hx; obtain ⟨_, rfl⟩ := List.mem_replicate.1 hx; decide
  clear h
  induction l generalizing s with
  | nil => exact hs
  | cons p l ih =>
    refine ih (fun q hq => hl q (by simp [hq])) _ (fun x hx => ?_)
    rcases List.mem_or_eq_of_mem_set hx with h | rfl
    · exact hs x h
    · refine Nat.or_lt_two_pow ?_ (Nat.pow_lt_pow_right (by omega) (hl p (by simp)))
      rw [List.getD_eq_getElem?_getD]
      cases hx : s[p.1]? with
      | none => decide
      | some y => exact hs y (List.mem_of_getElem? hx)

theorem prefix_map {pre : List Int} {x : Int} {l : List Nat} (h : pre ++ [x] <+: l.map Int.ofNat) : ∃ (p : List Nat) (c : Nat), pre = p.map Int.ofNat ∧ x = (c : Int) ∧ p ++ [c] <+: l := by
  obtain ⟨t, ht⟩ := h
  have hl := congrArg List.length ht
  simp at hl
  refine ⟨l.take pre.length, l.getD pre.length default, ?_, ?_, ?_⟩
  · have := congrArg (List.take pre.length) ht
    rw [← List.map_take] at this
    rw [← this]; simp
  · have := congrArg (fun l => l[pre.length]?) ht
    have hlt : pre.length < l.length := by omega
    simp [hlt] at this
    rw [List.getD_eq_getElem?_getD, List.getElem?_eq_getElem hlt]
    exact this
  · rw [← take_succ_getD (by omega)]
    exact List.take_prefix _ _
theorem ofNat_inj : ∀ {a b : List Nat}, a.map Int.ofNat = b.map Int.ofNat → a = b := by
  intro a
  induction a with
  | nil => intro b h; cases b with
    | nil => rfl
    | cons y b => simp at h
  | cons x a ih => intro b h; cases b with
    | nil => simp at h
    | cons y b =>
      simp only [List.map_cons, List.cons.injEq] at h
      rw [ih h.2, Int.ofNat_inj.1 h.1]
theorem pts_mem (s c : Nat) : c ∈ pts s ↔ c < 64 ∧ s.testBit c = true := by simp [pts]

theorem low_lt {w n c : Nat} (h : w < 2 ^ n) (hc : w.testBit c = true) : c < n := by
  rcases Nat.lt_or_ge c n with h' | h'
  · exact h'
  · rw [Nat.testBit_lt_two_pow (Nat.lt_of_lt_of_le h (Nat.pow_le_pow_right (by omega) h'))] at hc; cases hc
theorem cnt_add (s d : Nat) (h : ∀ j, d.testBit j = true → s.testBit j = false) : cnt (addAll s (pts d)) = cnt s + (pts d).length := by
  have key : ∀ L : List Nat, (∀ j ∈ L, j < 64) → (L.countP fun j => (addAll s (pts d)).testBit j) = (L.countP fun j => s.testBit j) + (L.filter fun j => d.testBit j).length := by
    intro L
    induction L with
    | nil => intro _; rfl
    | cons j L ih =>
      intro hj
      rw [List.countP_cons, List.countP_cons, ih (fun x hx => hj x (by simp [hx])), List.filter_cons]
      have hb : (addAll s (pts d)).testBit j = (s.testBit j || d.testBit j) := by
        rw [Bool.eq_iff_iff, addAll_bit, pts_mem, Bool.or_eq_true]
        have := hj j (by simp)
        constructor
        · rintro (h | ⟨_, h⟩)
          · exact .inl h
          · exact .inr h
        · rintro (h | h)
          · exact .inl h
          · exact .inr ⟨this, h⟩
      have := h j
      cases h1 : s.testBit j <;> cases h2 : d.testBit j <;> simp [hb, h1, h2] at this ⊢ <;> omega
  exact key (List.range 64) (fun j hj => by simpa using hj)

/-! Plain facts of graphs. -/
theorem set_getD {α : Type} [Inhabited α] (s : List α) (i j : Nat) (x : α) : (s.set i x).getD j default = if i = j ∧ j < s.length then x else s.getD j default := by
  rw [List.getD_eq_getElem?_getD, List.getD_eq_getElem?_getD, List.getElem?_set]
  by_cases h : i = j
  · subst h
    by_cases h2 : i < s.length
    · simp [h2]
    · simp [h2]
  · simp [h]
theorem two_pow_bit (i j : Nat) : (2 ^ i).testBit j = true ↔ i = j := by
  by_cases h : i = j
  · subst h; simp [Nat.testBit_two_pow_self]
  · simp [Nat.testBit_two_pow_of_ne h, h]
theorem outS_bit (n : Nat) (l : List (Nat × Nat)) (a b : Nat) : ((outS n l).getD a default).testBit b = true ↔ a < n ∧ (a, b) ∈ l := by
  have : ∀ s : List Nat, s.length = n → (((l.foldl outF s).getD a default).testBit b = true ↔ (s.getD a default).testBit b = true ∨ (a < n ∧ (a, b) ∈ l)) := by
    induction l with
    | nil => intro s _; simp
    | cons p l ih =>
      intro s hs
      rw [List.foldl_cons, ih _ (by simp [outF, hs])]
      unfold outF
      rw [set_getD, hs]
      by_cases h : p.1 = a ∧ a < n
      · rw [if_pos h]
        obtain ⟨rfl, h2⟩ := h
        rw [Nat.testBit_or, Bool.or_eq_true, two_pow_bit, List.mem_cons]
        constructor
        · rintro ((h | rfl) | h)
          · exact .inl h
          · exact .inr ⟨h2, .inl rfl⟩
          · exact .inr ⟨h.1, .inr h.2⟩
        · rintro (h | ⟨_, h | h⟩)
          · exact .inl (.inl h)
          · exact .inl (.inr (by rw [← h]))
          · exact .inr ⟨h2, h⟩
      · rw [if_neg h, List.mem_cons]
        constructor
        · rintro (h | h)
          · exact .inl h
          · exact .inr ⟨h.1, .inr h.2⟩
        · rintro (h' | ⟨h1, h' | h'⟩)
          · exact .inl h'
          · exact absurd ⟨by rw [← h'], h1⟩ h
          · exact .inr ⟨h1, h'⟩
  have h0 := this (List.replicate n 0) (by simp)
  rw [outS, h0]
  have : ((List.replicate n 0).getD a default).testBit b = false := by
    rw [List.getD_eq_getElem?_getD, List.getElem?_replicate]
    split <;> simp
  rw [this]; simp
/-- Ways. -/
inductive Path (l : List (Nat × Nat)) (a : Nat) : Nat → Prop
  | refl : Path l a a
  | step {b c : Nat} (h : Path l a b) (h1 : (b, c) ∈ l) : Path l a c
theorem Path.trans {l : List (Nat × Nat)} {a b c : Nat} (h : Path l a b) (k : Path l b c) : Path l a c := by
  induction k with
  | refl => exact h
  | step _ h1 ih => exact .step ih h1
theorem Path.one {l : List (Nat × Nat)} {a b : Nat} (h : (a, b) ∈ l) : Path l a b := .step .refl h
theorem Path.mono {l l' : List (Nat × Nat)} (hl : ∀ p ∈ l, p ∈ l') {a b : Nat} (h : Path l a b) : Path l' a b := by
  induction h with
  | refl => exact .refl
  | step _ h1 ih => exact .step ih (hl _ h1)
def flip (p : Nat × Nat) : Nat × Nat := (p.2, p.1)
theorem flip_mem {l : List (Nat × Nat)} {a b : Nat} : (a, b) ∈ l.map flip ↔ (b, a) ∈ l := by
  simp only [List.mem_map, flip]
  constructor
  · rintro ⟨⟨x, y⟩, h, e⟩
    cases e
    exact h
  · intro h; exact ⟨_, h, rfl⟩
theorem Path.flip {l : List (Nat × Nat)} {a b : Nat} (h : Path l a b) : Path (l.map flip) b a := by
  induction h with
  | refl => exact .refl
  | step _ h1 ih => exact (Path.one (flip_mem.2 h1)).trans ih
theorem Path.unflip {l : List (Nat × Nat)} {a b : Nat} (h : Path (l.map Go.Proofs.flip) a b) : Path l b a := by
  induction h with
  | refl => exact .refl
  | step _ h1 ih => exact (Path.one (flip_mem.1 h1)).trans ih
theorem path_flip {l : List (Nat × Nat)} {a b : Nat} : Path (l.map flip) a b ↔ Path l b a := ⟨Path.unflip, Path.flip⟩
/-- Lines between n points. -/
def Good (n : Nat) (l : List (Nat × Nat)) : Prop := ∀ p ∈ l, p.1 < n ∧ p.2 < n
theorem Good.flip {n : Nat} {l : List (Nat × Nat)} (h : Good n l) : Good n (l.map flip) := by
  intro p hp
  obtain ⟨q, hq, rfl⟩ := List.mem_map.1 hp
  exact ⟨(h q hq).2, (h q hq).1⟩
theorem Path.lt {n : Nat} {l : List (Nat × Nat)} (hg : Good n l) {a b : Nat} (ha : a < n) (h : Path l a b) : b < n := by
  cases h with
  | refl => exact ha
  | step _ h1 => exact (hg _ h1).2
theorem below_bit (n j : Nat) : (2 ^ n - 1).testBit j = true ↔ j < n := by
  rw [Nat.testBit_two_pow_sub_one]; simp
theorem rch_path {n : Nat} {l : List (Nat × Nat)} (hg : Good n l) {a b : Nat} (ha : a < n) : Rch (outS n l) (2 ^ n - 1) a b ↔ Path l a b := by
  constructor
  · intro h
    induction h with
    | refl => exact .refl
    | step _ h1 _ ih => exact .step ih ((outS_bit _ _ _ _).1 h1).2
  · intro h
    induction h with
    | refl => exact .refl
    | step h h1 ih => exact .step ih ((outS_bit _ _ _ _).2 ⟨h.lt hg ha, h1⟩) ((below_bit _ _).2 (hg _ h1).2)
theorem outS_lt' {n : Nat} {l : List (Nat × Nat)} (hn : n ≤ 64) (hg : Good n l) : ∀ x ∈ outS n l, x < 2 ^ 64 := outS_lt n l fun p hp => Nat.lt_of_lt_of_le (hg p hp).2 hn
/-- The points to which ways go. -/
def rs (n : Nat) (l : List (Nat × Nat)) (a : Nat) : Nat := reach (outS n l) (2 ^ n - 1) a
theorem rs_bit {n : Nat} {l : List (Nat × Nat)} (hn : n ≤ 64) (hg : Good n l) {a : Nat} (ha : a < n) (b : Nat) : (rs n l a).testBit b = true ↔ Path l a b := by
  rw [rs, reach_bit (outS_lt' hn hg) (by omega), rch_path hg ha]
theorem rs_lt {n : Nat} {l : List (Nat × Nat)} (hn : n ≤ 64) (hg : Good n l) {a : Nat} (ha : a < n) : rs n l a < 2 ^ 64 := reach_lt (outS_lt' hn hg) (by omega)
/-- The least point. -/
def low (s : Nat) : Nat := (pts s).getD 0 default
theorem low_spec {s i : Nat} (h : s.testBit i = true) (hi : i < 64) : pts s ≠ [] ∧ s.testBit (low s) = true ∧ low s ≤ i := by
  have hm : i ∈ pts s := (pts_mem s i).2 ⟨hi, h⟩
  have hne : pts s ≠ [] := List.ne_nil_of_mem hm
  refine ⟨hne, ?_⟩
  have hs : (pts s).Pairwise (· < ·) := List.Pairwise.filter _ List.pairwise_lt_range
  unfold low
  cases hp : pts s with
  | nil => exact absurd hp hne
  | cons x t =>
    rw [hp] at hm hs
    have hx : x ∈ pts s := by rw [hp]; simp
    refine ⟨((pts_mem s x).1 hx).2, ?_⟩
    rcases List.mem_cons.1 hm with rfl | hm
    · exact Nat.le_refl _
    · exact Nat.le_of_lt ((List.pairwise_cons.1 hs).1 i hm)
theorem low_eq {s t : Nat} (h : ∀ j, s.testBit j = true ↔ t.testBit j = true) : low s = low t := by
  have : s = t := bits_eq fun j => by
    have := h j
    cases h1 : s.testBit j <;> cases h2 : t.testBit j <;> simp [h1, h2] at this <;> rfl
  rw [this]
end Go.Proofs

namespace Go.Proofs
open Go.Aw
/-- Ways of a line, or several. -/
def Path1 (l : List (Nat × Nat)) (a b : Nat) : Prop := ∃ c, (a, c) ∈ l ∧ Path l c b
theorem Path1.path {l : List (Nat × Nat)} {a b : Nat} (h : Path1 l a b) : Path l a b := by
  obtain ⟨c, h1, h2⟩ := h
  exact (Path.one h1).trans h2
theorem Path1.trans {l : List (Nat × Nat)} {a b c : Nat} (h : Path1 l a b) (k : Path l b c) : Path1 l a c := by
  obtain ⟨d, h1, h2⟩ := h
  exact ⟨d, h1, h2.trans k⟩
theorem Path.cases1 {l : List (Nat × Nat)} {a b : Nat} (h : Path l a b) : a = b ∨ Path1 l a b := by
  induction h with
  | refl => exact .inl rfl
  | step _ h1 ih =>
    rcases ih with rfl | h
    · exact .inr ⟨_, h1, .refl⟩
    · exact .inr (h.trans (.one h1))
theorem Path.trans1 {l : List (Nat × Nat)} {a b c : Nat} (h : Path l a b) (k : Path1 l b c) : Path1 l a c := by
  rcases h.cases1 with rfl | h
  · exact k
  · exact h.trans k.path
theorem Path1.snoc {l : List (Nat × Nat)} {a b c : Nat} (h : Path l a b) (k : (b, c) ∈ l) : Path1 l a c := h.trans1 ⟨c, k, .refl⟩
theorem Path1.mono {l l' : List (Nat × Nat)} (hl : ∀ p ∈ l, p ∈ l') {a b : Nat} (h : Path1 l a b) : Path1 l' a b := by
  obtain ⟨c, h1, h2⟩ := h
  exact ⟨c, hl _ h1, h2.mono hl⟩
theorem Path1.last {l : List (Nat × Nat)} {a b : Nat} (h : Path1 l a b) : ∃ c, Path l a c ∧ (c, b) ∈ l := by
  obtain ⟨c, h1, h2⟩ := h
  cases h2 with
  | refl => exact ⟨a, .refl, h1⟩
  | step h2 h3 => exact ⟨_, (Path.one h1).trans h2, h3⟩
theorem path1_flip {l : List (Nat × Nat)} {a b : Nat} : Path1 (l.map flip) a b ↔ Path1 l b a := by
  have key : ∀ (l : List (Nat × Nat)) (a b : Nat), Path1 (l.map Go.Proofs.flip) a b → Path1 l b a := by
    intro l a b ⟨c, h1, h2⟩
    exact Path1.snoc h2.unflip (flip_mem.1 h1)
  refine ⟨key l a b, fun h => ?_⟩
  have hf : (l.map Go.Proofs.flip).map Go.Proofs.flip = l := by
    rw [List.map_map]
    conv => rhs; rw [← List.map_id l]
    rfl
  refine key (l.map Go.Proofs.flip) b a ?_
  rw [hf]; exact h
theorem Path1.lt {n : Nat} {l : List (Nat × Nat)} (hg : Good n l) {a b : Nat} (h : Path1 l a b) : a < n ∧ b < n := by
  obtain ⟨c, h1, h2⟩ := h
  exact ⟨(hg _ h1).1, h2.lt hg (hg _ h1).2⟩
def warI (k : Nat) (s : List Nat) (i : Nat) : List Nat := if (s.getD i default).testBit k then s.set i (s.getD i default ||| s.getD k default) else s
def warK (n : Nat) (s : List Nat) (k : Nat) : List Nat := (List.range n).foldl (warI k) s
def warS (n : Nat) (s : List Nat) (m : Nat) : List Nat := (List.range m).foldl (warK n) s
def war (n : Nat) (l : List (Nat × Nat)) : List Nat := warS n (outS n l) n
theorem warI_len (k : Nat) (s : List Nat) (i : Nat) : (warI k s i).length = s.length := by unfold warI; split <;> simp
theorem range_foldl {α : Type} (f : α → Nat → α) (a : α) (n : Nat) : (List.range (n + 1)).foldl f a = f ((List.range n).foldl f a) n := by rw [List.range_succ, List.foldl_append]; rfl
def wOr (s : List Nat) (k i : Nat) : Nat := if (s.getD i default).testBit k then s.getD i default ||| s.getD k default else s.getD i default
theorem warI_get (k : Nat) (s : List Nat) (i j : Nat) (hi : i < s.length) : (warI k s i).getD j default = if j = i then wOr s k i else s.getD j default := by
  unfold warI wOr
  split
  · rw [set_getD]
    by_cases h : i = j
    · subst h; simp [hi]
    · rw [if_neg (by simp [h]), if_neg (fun e => h e.symm)]
  · split
    · rename_i h; rw [h]
    · rfl
theorem warIs_get (k : Nat) (s : List Nat) (m : Nat) (hm : m ≤ s.length) : ((List.range m).foldl (warI k) s).length = s.length ∧ ∀ j, ((List.range m).foldl (warI k) s).getD j default = if j < m then wOr s k j else s.getD j default := by
  induction m with
  | zero => simp
  | succ m ih =>
    obtain ⟨h1, h2⟩ := ih (by omega)
    rw [range_foldl]
    refine ⟨by rw [warI_len, h1], fun j => ?_⟩
    rw [warI_get _ _ _ _ (by rw [h1]; omega)]
    have hk : ((List.range m).foldl (warI k) s).getD k default = s.getD k default := by
      rw [h2]
      split
      · unfold wOr; split <;> simp
      · rfl
    by_cases hj : j = m
    · subst hj
      rw [if_pos rfl, if_pos (Nat.lt_succ_self j)]
      have h3 := h2 j
      rw [if_neg (Nat.lt_irrefl j)] at h3
      unfold wOr
      rw [hk, h3]
    · rw [if_neg hj, h2]
      by_cases h3 : j < m
      · rw [if_pos h3, if_pos (by omega)]
      · rw [if_neg h3, if_neg (by omega)]
theorem warK_get (n : Nat) (s : List Nat) (k : Nat) (hs : s.length = n) : (warK n s k).length = n ∧ ∀ j, (warK n s k).getD j default = wOr s k j := by
  obtain ⟨h1, h2⟩ := warIs_get k s n (by omega)
  refine ⟨by rw [warK, h1, hs], fun j => ?_⟩
  rw [warK, h2]
  split
  · rfl
  · have : s.getD j default = 0 := by rw [List.getD_eq_getElem?_getD, List.getElem?_eq_none (by omega)]; rfl
    unfold wOr
    rw [this]
    simp
/-- Warshall's relation. -/
def WR (l : List (Nat × Nat)) : Nat → Nat → Nat → Prop
  | 0, i, j => (i, j) ∈ l
  | k + 1, i, j => WR l k i j ∨ (WR l k i k ∧ WR l k k j)
theorem WR.sound {l : List (Nat × Nat)} {k i j : Nat} (h : WR l k i j) : Path1 l i j := by
  induction k generalizing i j with
  | zero => exact ⟨j, h, .refl⟩
  | succ k ih =>
    rcases h with h | ⟨h1, h2⟩
    · exact ih h
    · exact (ih h1).trans (ih h2).path
theorem WR.tr {l : List (Nat × Nat)} {k : Nat} : ∀ {i m j : Nat}, m < k → WR l k i m → WR l k m j → WR l k i j := by
  induction k with
  | zero => intro i m j h; omega
  | succ k ih =>
    intro i m j hm h1 h2
    by_cases hk : m < k
    · rcases h1 with h1 | ⟨h1, h1'⟩ <;> rcases h2 with h2 | ⟨h2, h2'⟩
      · exact .inl (ih hk h1 h2)
      · exact .inr ⟨ih hk h1 h2, h2'⟩
      · exact .inr ⟨h1, ih hk h1' h2⟩
      · exact .inr ⟨h1, h2'⟩
    · obtain rfl : m = k := by omega
      have a : WR l m i m := h1.elim id (fun h => h.1)
      have b : WR l m m j := h2.elim id (fun h => h.2)
      exact .inr ⟨a, b⟩
theorem WR.base {l : List (Nat × Nat)} {i j : Nat} (h : (i, j) ∈ l) : ∀ k, WR l k i j
  | 0 => h
  | k + 1 => .inl (WR.base h k)
theorem WR.all {n : Nat} {l : List (Nat × Nat)} (hg : Good n l) {i j : Nat} : WR l n i j ↔ Path1 l i j := by
  refine ⟨WR.sound, ?_⟩
  rintro ⟨c, h1, h2⟩
  have : WR l n i j ∧ j < n := by
    induction h2 with
    | refl => exact ⟨.base h1 n, (hg _ h1).2⟩
    | step _ h3 ih => exact ⟨.tr ih.2 ih.1 (.base h3 n), (hg _ h3).2⟩
  exact this.1
theorem warS_get (n : Nat) (l : List (Nat × Nat)) (m : Nat) (hg : Good n l) : (warS n (outS n l) m).length = n ∧ ∀ i j, ((warS n (outS n l) m).getD i default).testBit j = true ↔ WR l m i j := by
  induction m with
  | zero =>
    refine ⟨by simpa [warS] using outS_len n l, fun i j => ?_⟩
    show ((outS n l).getD i default).testBit j = true ↔ _
    rw [outS_bit]
    exact ⟨fun h => h.2, fun h => ⟨(hg _ h).1, h⟩⟩
  | succ m ih =>
    obtain ⟨h1, h2⟩ := ih
    have : warS n (outS n l) (m + 1) = warK n (warS n (outS n l) m) m := range_foldl _ _ _
    rw [this]
    obtain ⟨h3, h4⟩ := warK_get n _ m h1
    refine ⟨h3, fun i j => ?_⟩
    rw [h4]
    show _ ↔ WR l m i j ∨ (WR l m i m ∧ WR l m m j)
    unfold wOr
    rw [← h2, ← h2, ← h2]
    split
    · rename_i h; rw [Nat.testBit_or, Bool.or_eq_true]
      exact ⟨fun h' => h'.elim .inl (fun h2 => .inr ⟨h, h2⟩), fun h' => h'.elim .inl (fun h2 => .inr h2.2)⟩
    · rename_i h
      exact ⟨.inl, fun h' => h'.elim id (fun h2 => absurd h2.1 h)⟩
theorem war_len {n : Nat} {l : List (Nat × Nat)} (hg : Good n l) : (war n l).length = n := (warS_get n l n hg).1
theorem war_bit {n : Nat} {l : List (Nat × Nat)} (hg : Good n l) (i j : Nat) : ((war n l).getD i default).testBit j = true ↔ Path1 l i j := by
  rw [war, (warS_get n l n hg).2, WR.all hg]
end Go.Proofs

namespace Go.Proofs
open Go.Aw
/-- The least point there and back. -/
def part (n : Nat) (l : List (Nat × Nat)) (i : Nat) : Nat := low (rs n l i &&& rs n (l.map flip) i)
def strongP (n : Nat) (l : List (Nat × Nat)) : List Nat := (List.range n).map (part n l)
def Mut (l : List (Nat × Nat)) (a b : Nat) : Prop := Path l a b ∧ Path l b a
theorem Mut.refl (l : List (Nat × Nat)) (a : Nat) : Mut l a a := ⟨.refl, .refl⟩
theorem Mut.symm {l : List (Nat × Nat)} {a b : Nat} (h : Mut l a b) : Mut l b a := ⟨h.2, h.1⟩
theorem Mut.trans {l : List (Nat × Nat)} {a b c : Nat} (h : Mut l a b) (k : Mut l b c) : Mut l a c := ⟨h.1.trans k.1, k.2.trans h.2⟩
section
variable {n : Nat} {l : List (Nat × Nat)} (hn : n ≤ 64) (hg : Good n l)
include hn hg
theorem both_bit {i : Nat} (hi : i < n) (j : Nat) : (rs n l i &&& rs n (l.map flip) i).testBit j = true ↔ Mut l i j := by
  rw [Nat.testBit_and, Bool.and_eq_true, rs_bit hn hg hi, rs_bit hn hg.flip hi, path_flip]
  exact Iff.rfl
theorem part_spec {i j : Nat} (hi : i < n) (h : Mut l i j) : Mut l i (part n l i) ∧ part n l i ≤ j := by
  have hj : j < n := h.1.lt hg hi
  obtain ⟨_, h1, h2⟩ := low_spec ((both_bit hn hg hi j).2 h) (by omega)
  exact ⟨(both_bit hn hg hi _).1 h1, h2⟩
theorem part_mut {i : Nat} (hi : i < n) : Mut l i (part n l i) ∧ part n l i ≤ i := part_spec hn hg hi (.refl l i)
theorem part_pts {i : Nat} (hi : i < n) : pts (rs n l i &&& rs n (l.map flip) i) ≠ [] := (low_spec ((both_bit hn hg hi i).2 (.refl l i)) (by omega)).1
theorem part_iff {a b : Nat} (ha : a < n) (hb : b < n) : part n l a = part n l b ↔ Mut l a b := by
  constructor
  · intro h
    have h1 := (part_mut hn hg ha).1
    have h2 := (part_mut hn hg hb).1
    rw [h] at h1
    exact h1.trans h2.symm
  · intro h
    refine low_eq fun j => ?_
    rw [both_bit hn hg ha, both_bit hn hg hb]
    exact ⟨fun k => h.symm.trans k, fun k => h.trans k⟩
theorem both_lt {i : Nat} (hi : i < n) : rs n l i < 2 ^ 64 ∧ rs n (l.map flip) i < 2 ^ 64 ∧ (rs n l i &&& rs n (l.map flip) i) < 2 ^ 64 :=
  ⟨rs_lt hn hg hi, rs_lt hn hg.flip hi, Nat.lt_of_le_of_lt Nat.and_le_left (rs_lt hn hg hi)⟩
end
theorem Path.congr {l l' : List (Nat × Nat)} (h : ∀ p, p ∈ l ↔ p ∈ l') {a b : Nat} : Path l a b ↔ Path l' a b := ⟨Path.mono fun p => (h p).1, Path.mono fun p => (h p).2⟩
theorem part_congr {n : Nat} {l l' : List (Nat × Nat)} (hn : n ≤ 64) (hg : Good n l) (hg' : Good n l') {i : Nat} (hi : i < n) (h : ∀ j, Mut l i j ↔ Mut l' i j) : part n l i = part n l' i :=
  low_eq fun j => by rw [both_bit hn hg hi, both_bit hn hg' hi]; exact h j
/-- Lines from the last one on, each the other way. -/
def backL (l : List (Nat × Nat)) : List (Nat × Nat) := l.reverse.map flip
theorem back_mem {l : List (Nat × Nat)} {p : Nat × Nat} : p ∈ backL l ↔ p ∈ l.map flip := by simp [backL]
theorem back_good {n : Nat} {l : List (Nat × Nat)} (h : Good n l) : Good n (backL l) := fun p hp => h.flip p (back_mem.1 hp)
theorem strong_turn {n : Nat} {l : List (Nat × Nat)} (hn : n ≤ 64) (hg : Good n l) : strongP n (backL l) = strongP n l := by
  refine List.map_congr_left fun i hi => part_congr hn (back_good hg) hg (by simpa using hi) fun j => ?_
  unfold Mut
  rw [Path.congr fun p => back_mem, Path.congr fun p => back_mem, path_flip, path_flip]
  exact ⟨fun h => ⟨h.2, h.1⟩, fun h => ⟨h.2, h.1⟩⟩
theorem strong_more {n : Nat} {l l' : List (Nat × Nat)} (hn : n ≤ 64) (hg : Good n l) (hg' : Good n l') (h : ∀ p ∈ l, p ∈ l') {a b : Nat} (ha : a < n) (hb : b < n) (e : part n l a = part n l b) : part n l' a = part n l' b := by
  rw [part_iff hn hg ha hb] at e
  rw [part_iff hn hg' ha hb]
  exact ⟨e.1.mono h, e.2.mono h⟩
end Go.Proofs

namespace Go.Proofs
open Go.Aw
/-- The contrary of a point. -/
def neg (p : Nat) : Nat := if p % 2 = 0 then p + 1 else p - 1
theorem neg_neg (p : Nat) : neg (neg p) = p := by unfold neg; split <;> split <;> omega
theorem neg_even (i : Nat) : neg (2 * i) = 2 * i + 1 := by unfold neg; rw [if_pos (by omega)]
theorem neg_odd (i : Nat) : neg (2 * i + 1) = 2 * i := by unfold neg; rw [if_neg (by omega)]; omega
theorem neg_div (p : Nat) : neg p / 2 = p / 2 := by unfold neg; split <;> omega
theorem neg_lt {n p : Nat} (h : p < 2 * n) : neg p < 2 * n := by unfold neg; split <;> omega
/-- Lines of ors: from the contrary of the one the other one. -/
def impL (cl : List (Nat × Nat)) : List (Nat × Nat) := cl.flatMap fun c => [(neg c.1, c.2), (neg c.2, c.1)]
theorem imp_mem {cl : List (Nat × Nat)} {p q : Nat} : (p, q) ∈ impL cl ↔ (neg p, q) ∈ cl ∨ (q, neg p) ∈ cl := by
  unfold impL
  rw [List.mem_flatMap]
  constructor
  · rintro ⟨⟨u, v⟩, h, h2⟩
    simp only [List.mem_cons, Prod.mk.injEq, List.not_mem_nil, or_false] at h2
    rcases h2 with ⟨rfl, rfl⟩ | ⟨rfl, rfl⟩
    · rw [neg_neg]; exact .inl h
    · rw [neg_neg]; exact .inr h
  · rintro (h | h)
    · exact ⟨_, h, by simp [neg_neg]⟩
    · exact ⟨_, h, by simp [neg_neg]⟩
theorem imp_skew {cl : List (Nat × Nat)} {p q : Nat} (h : (p, q) ∈ impL cl) : (neg q, neg p) ∈ impL cl := by
  rw [imp_mem] at h ⊢
  rw [neg_neg]
  exact h.symm
theorem path_skew {cl : List (Nat × Nat)} {p q : Nat} (h : Path (impL cl) p q) : Path (impL cl) (neg q) (neg p) := by
  induction h with
  | refl => exact .refl
  | step _ h1 ih => exact (Path.one (imp_skew h1)).trans ih
/-- A part of an or is so. -/
def litB (a : List Bool) (p : Nat) : Bool := if p % 2 = 0 then a.getD (p / 2) default else !a.getD (p / 2) default
theorem lit_neg (a : List Bool) (p : Nat) : litB a (neg p) = !litB a p := by
  unfold litB
  rw [neg_div]
  unfold neg
  split
  · rw [if_neg (by omega)]
  · rw [if_pos (by omega)]; simp
def rightB (cl : List (Nat × Nat)) (a : List Bool) : Bool := cl.all fun c => litB a c.1 || litB a c.2
theorem right_iff {cl : List (Nat × Nat)} {a : List Bool} : rightB cl a = true ↔ ∀ p q, litB a p = true → (p, q) ∈ impL cl → litB a q = true := by
  unfold rightB
  rw [List.all_eq_true]
  constructor
  · intro h p q hp hpq
    rcases imp_mem.1 hpq with h1 | h1 <;> have h2 := h _ h1 <;> simp [lit_neg, hp] at h2 <;> exact h2
  · rintro h ⟨u, v⟩ hc
    rw [Bool.or_eq_true]
    cases hu : litB a u with
    | true => exact .inl rfl
    | false => exact .inr (h (neg u) v (by rw [lit_neg, hu]; rfl) (imp_mem.2 (.inl (by rw [neg_neg]; exact hc))))
theorem right_path {cl : List (Nat × Nat)} {a : List Bool} (h : rightB cl a = true) {p q : Nat} (hp : litB a p = true) (hpq : Path (impL cl) p q) : litB a q = true := by
  induction hpq with
  | refl => exact hp
  | step _ h1 ih => exact right_iff.1 h _ _ ih h1
def fitsB (n s : Nat) : Bool := (List.range n).all fun i => !(s.testBit (2 * i) && s.testBit (2 * i + 1))
theorem fits_iff {n s : Nat} : fitsB n s = true ↔ ∀ i, i < n → ¬ (s.testBit (2 * i) = true ∧ s.testBit (2 * i + 1) = true) := by
  unfold fitsB
  rw [List.all_eq_true]
  constructor
  · intro h i hi ⟨h1, h2⟩
    have := h i (by simpa using hi)
    simp [h1, h2] at this
  · intro h i hi
    have := h i (by simpa using hi)
    cases h1 : s.testBit (2 * i) <;> cases h2 : s.testBit (2 * i + 1) <;> simp [h1, h2] at this ⊢
theorem fits_neg {n s : Nat} (h : fitsB n s = true) {p : Nat} (hp : p < 2 * n) : ¬ (s.testBit p = true ∧ s.testBit (neg p) = true) := by
  rw [fits_iff] at h
  rintro ⟨h1, h2⟩
  have := h (p / 2) (by omega)
  unfold neg at h2
  split at h2
  · exact this ⟨by rw [show 2 * (p / 2) = p by omega]; exact h1, by rw [show 2 * (p / 2) + 1 = p + 1 by omega]; exact h2⟩
  · exact this ⟨by rw [show 2 * (p / 2) = p - 1 by omega]; exact h2, by rw [show 2 * (p / 2) + 1 = p by omega]; exact h1⟩
/-- One name. -/
def solveI (n : Nat) (l : List (Nat × Nat)) (i s : Nat) : Option (Nat × Bool) :=
  if fitsB n (s ||| rs (2 * n) l (2 * i + 1)) then some (s ||| rs (2 * n) l (2 * i + 1), false)
  else if fitsB n (s ||| rs (2 * n) l (2 * i)) then some (s ||| rs (2 * n) l (2 * i), true) else none
def solveN (n : Nat) (l : List (Nat × Nat)) : Nat → Option (Nat × List Bool)
  | 0 => some (0, [])
  | k + 1 => match solveN n l k with
    | none => none
    | some (s, o) => match solveI n l k s with
      | none => none
      | some (s', b) => some (s', o ++ [b])
/-- The least answer. -/
def solve (n : Nat) (cl : List (Nat × Nat)) : Option (List Bool) := (solveN n (impL cl) n).map (·.2)
section
variable {n : Nat} {cl : List (Nat × Nat)} (hn : 2 * n ≤ 64) (hg : Good (2 * n) cl)
include hg in
theorem imp_good : Good (2 * n) (impL cl) := by
  rintro ⟨p, q⟩ h
  rcases imp_mem.1 h with h1 | h1
  · exact ⟨by have := neg_lt (hg _ h1).1; rwa [neg_neg] at this, (hg _ h1).2⟩
  · exact ⟨by have := neg_lt (hg _ h1).2; rwa [neg_neg] at this, (hg _ h1).1⟩
/-- What holds behind k names. -/
structure SI (n : Nat) (cl : List (Nat × Nat)) (k s : Nat) (o : List Bool) : Prop where
  len : o.length = k
  fits : fitsB n s = true
  lt : ∀ p, s.testBit p = true → p < 2 * n
  closed : ∀ p q, s.testBit p = true → (p, q) ∈ impL cl → s.testBit q = true
  has : ∀ i, i < k → s.testBit (if o.getD i default then 2 * i else 2 * i + 1) = true
  why : ∀ q, s.testBit q = true → ∃ i, i < k ∧ Path (impL cl) (if o.getD i default then 2 * i else 2 * i + 1) q
  least : ∀ (a : List Bool), rightB cl a = true → ∀ i, i < k → (∀ j, j < i → a.getD j default = o.getD j default) → a.getD i default = false → o.getD i default = false
theorem SI.sub {k s : Nat} {o : List Bool} (h : SI n cl k s o) {a : List Bool} (ha : rightB cl a = true) (he : ∀ j, j < k → a.getD j default = o.getD j default) {q : Nat} (hq : s.testBit q = true) : litB a q = true := by
  obtain ⟨i, hi, hp⟩ := h.why q hq
  refine right_path ha ?_ hp
  rw [← he i hi]
  unfold litB
  cases hai : a.getD i default
  · simp only [Bool.false_eq_true, if_false]
    rw [if_neg (by omega), show (2 * i + 1) / 2 = i by omega, hai]; rfl
  · simp only [if_true]
    rw [if_pos (by omega), show (2 * i) / 2 = i by omega, hai]
/-- Over what is closed and fits, each right answer can be turned into one that has it. -/
theorem SI.over {k s : Nat} {o : List Bool} (h : SI n cl k s o) (hg : Good (2 * n) cl) {a : List Bool} (ha : rightB cl a = true) (hk : k ≤ n) : ∃ a' : List Bool, rightB cl a' = true ∧ ∀ j, j < k → a'.getD j default = o.getD j default := by
  refine ⟨(List.range n).map fun i => if s.testBit (2 * i) then true else if s.testBit (2 * i + 1) then false else a.getD i default, ?_, ?_⟩
  · have hget : ∀ i, i < n → ((List.range n).map fun i => if s.testBit (2 * i) then true else if s.testBit (2 * i + 1) then false else a.getD i default).getD i default = if s.testBit (2 * i) then true else if s.testBit (2 * i + 1) then false else a.getD i default := fun i hi => by
      rw [List.getD_eq_getElem?_getD, List.getElem?_map, List.getElem?_range hi]; rfl
    generalize he : ((List.range n).map fun i => if s.testBit (2 * i) then true else if s.testBit (2 * i + 1) then false else a.getD i default) = a' at hget ⊢
    have hlit : ∀ p, p < 2 * n → litB a' p = if s.testBit p then true else if s.testBit (neg p) then false else litB a p := by
      intro p hp
      have hf := fits_neg h.fits hp
      unfold litB
      rw [hget (p / 2) (by omega)]
      unfold neg at hf ⊢
      by_cases hm : p % 2 = 0
      · rw [if_pos hm, if_pos hm] at *
        rw [show 2 * (p / 2) = p by omega, if_pos hm]
      · rw [if_neg hm, if_neg hm] at *
        rw [show 2 * (p / 2) = p - 1 by omega, show p - 1 + 1 = p by omega] 
        rw [if_neg hm] at *
        cases h1 : s.testBit p <;> cases h2 : s.testBit (p - 1) <;> simp [h1, h2] at hf ⊢
    refine right_iff.2 fun p q hp hpq => ?_
    have hpl := (imp_good hg) _ hpq
    rw [hlit p hpl.1] at hp
    rw [hlit q hpl.2]
    cases h1 : s.testBit p with
    | true => rw [h.closed p q h1 hpq]; rfl
    | false =>
      rw [h1] at hp
      cases h2 : s.testBit (neg p) with
      | true => rw [h2] at hp; simp at hp
      | false =>
        rw [h2] at hp
        cases h3 : s.testBit q with
        | true => rfl
        | false =>
          cases h4 : s.testBit (neg q) with
          | true => rw [h.closed _ _ h4 (imp_skew hpq)] at h2; cases h2
          | false => exact right_iff.1 ha p q (by simpa using hp) hpq
  · intro j hj
    rw [List.getD_eq_getElem?_getD, List.getElem?_map, List.getElem?_range (by omega)]
    have h1 := h.has j hj
    have h2 := fits_iff.1 h.fits j (by omega)
    show (if s.testBit (2 * j) then true else if s.testBit (2 * j + 1) then false else a.getD j default) = o.getD j default
    cases ho : o.getD j default
    · rw [ho] at h1
      simp only [Bool.false_eq_true, if_false] at h1
      rw [h1] at h2 ⊢
      have : s.testBit (2 * j) = false := by cases h3 : s.testBit (2 * j) <;> simp [h3] at h2 ⊢
      rw [this]; rfl
    · rw [ho] at h1
      simp only [if_true] at h1
      rw [h1]; rfl
include hn hg
theorem rsi_bit {p : Nat} (hp : p < 2 * n) (q : Nat) : (rs (2 * n) (impL cl) p).testBit q = true ↔ Path (impL cl) p q := rs_bit hn (imp_good hg) hp q
theorem SI.add {k s : Nat} {o : List Bool} (h : SI n cl k s o) (hk : k < n) (b : Bool) (hf : fitsB n (s ||| rs (2 * n) (impL cl) (if b then 2 * k else 2 * k + 1)) = true)
    (hb : b = true → fitsB n (s ||| rs (2 * n) (impL cl) (2 * k + 1)) = false) : SI n cl (k + 1) (s ||| rs (2 * n) (impL cl) (if b then 2 * k else 2 * k + 1)) (o ++ [b]) := by
  have hp : (if b = true then 2 * k else 2 * k + 1) < 2 * n := by split <;> omega
  have hbit : ∀ q, (s ||| rs (2 * n) (impL cl) (if b = true then 2 * k else 2 * k + 1)).testBit q = true ↔ s.testBit q = true ∨ Path (impL cl) (if b = true then 2 * k else 2 * k + 1) q := fun q => by
    rw [Nat.testBit_or, Bool.or_eq_true, rsi_bit hn hg hp]
  have ho : ∀ i, i < k → (o ++ [b]).getD i default = o.getD i default := fun i hi => by
    rw [List.getD_eq_getElem?_getD, List.getD_eq_getElem?_getD, List.getElem?_append_left (by rw [h.len]; exact hi)]
  have hok : (o ++ [b]).getD k default = b := by
    rw [List.getD_eq_getElem?_getD, List.getElem?_append_right (by rw [h.len]; omega), h.len]; simp
  refine ⟨by simp [h.len], hf, fun p hp' => ?_, fun p q h1 h2 => ?_, fun i hi => ?_, fun q hq => ?_, fun a ha i hi he hai => ?_⟩
  · rcases (hbit p).1 hp' with h1 | h1
    · exact h.lt p h1
    · exact h1.lt (imp_good hg) hp
  · rw [hbit] at h1 ⊢
    rcases h1 with h1 | h1
    · exact .inl (h.closed p q h1 h2)
    · exact .inr (h1.step h2)
  · rw [hbit]
    by_cases hik : i = k
    · subst hik
      rw [hok]
      exact .inr .refl
    · rw [ho i (by omega)]
      exact .inl (h.has i (by omega))
  · rcases (hbit q).1 hq with h1 | h1
    · obtain ⟨i, hi, h2⟩ := h.why q h1
      exact ⟨i, by omega, by rw [ho i hi]; exact h2⟩
    · exact ⟨k, by omega, by rw [hok]; exact h1⟩
  · by_cases hik : i = k
    · subst hik
      rw [hok]
      cases hbb : b with
      | false => rfl
      | true =>
        exfalso
        have he' : ∀ j, j < i → a.getD j default = o.getD j default := fun j hj => by rw [he j hj, ho j hj]
        have h1 := hb hbb
        rw [← Bool.not_eq_true, fits_iff] at h1
        refine h1 fun j hj => ?_
        have hsub : ∀ q, (s ||| rs (2 * n) (impL cl) (2 * i + 1)).testBit q = true → litB a q = true := fun q hq => by
          rw [Nat.testBit_or, Bool.or_eq_true, rsi_bit hn hg (by omega)] at hq
          rcases hq with hq | hq
          · exact h.sub ha he' hq
          · refine right_path ha ?_ hq
            unfold litB
            rw [if_neg (by omega), show (2 * i + 1) / 2 = i by omega, hai]; rfl
        rintro ⟨h2, h3⟩
        have h4 := hsub _ h2
        have h5 := hsub _ h3
        rw [← neg_even, lit_neg, h4] at h5
        cases h5
    · rw [ho i (by omega)]
      exact h.least a ha i (by omega) (fun j hj => by rw [he j hj, ho j (by omega)]) hai
/-- Where neither is possible the name and its contrary follow from each other. -/
theorem SI.both {k s : Nat} {o : List Bool} (h : SI n cl k s o) (hk : k < n) (h1 : fitsB n (s ||| rs (2 * n) (impL cl) (2 * k + 1)) = false) (h2 : fitsB n (s ||| rs (2 * n) (impL cl) (2 * k)) = false) :
    Path (impL cl) (2 * k) (2 * k + 1) ∧ Path (impL cl) (2 * k + 1) (2 * k) := by
  have key : ∀ p, p < 2 * n → fitsB n (s ||| rs (2 * n) (impL cl) p) = false → Path (impL cl) p (neg p) ∨ s.testBit (neg p) = true := by
    intro p hp hf
    have hbit : ∀ q, (s ||| rs (2 * n) (impL cl) p).testBit q = true ↔ s.testBit q = true ∨ Path (impL cl) p q := fun q => by
      rw [Nat.testBit_or, Bool.or_eq_true, rsi_bit hn hg hp]
    have cl1 : ∀ {x y}, s.testBit x = true → Path (impL cl) x y → s.testBit y = true := fun hx hxy => by
      induction hxy with
      | refl => exact hx
      | step _ h1 ih => exact h.closed _ _ ih h1
    have cas : ∀ x, (s ||| rs (2 * n) (impL cl) p).testBit x = true → (s ||| rs (2 * n) (impL cl) p).testBit (neg x) = true → x < 2 * n → Path (impL cl) p (neg p) ∨ s.testBit (neg p) = true := by
      intro x hx hnx hlt
      rw [hbit] at hx hnx
      rcases hx with hx | hx <;> rcases hnx with hnx | hnx
      · exact absurd ⟨hx, hnx⟩ (fits_neg h.fits hlt)
      · have := path_skew hnx
        rw [neg_neg] at this
        exact .inr (cl1 hx this)
      · have := path_skew hx
        exact .inr (cl1 hnx this)
      · have := path_skew hnx
        rw [neg_neg] at this
        exact .inl (hx.trans this)
    rw [← Bool.not_eq_true, fits_iff] at hf
    refine Classical.byContradiction fun hno => hf fun i hi ⟨h3, h4⟩ => hno (cas (2 * i) h3 (by rw [neg_even]; exact h4) (by omega))
  have h3 := key (2 * k + 1) (by omega) h1
  have h4 := key (2 * k) (by omega) h2
  rw [neg_odd] at h3
  rw [neg_even] at h4
  have same : ∀ p, p < 2 * n → s.testBit p = true → fitsB n (s ||| rs (2 * n) (impL cl) p) = true := by
    intro p hp hs
    have : s ||| rs (2 * n) (impL cl) p = s := bits_eq fun q => by
      rw [Nat.testBit_or]
      cases h5 : (rs (2 * n) (impL cl) p).testBit q with
      | false => simp
      | true =>
        rw [rsi_bit hn hg hp] at h5
        have : s.testBit q = true := by
          induction h5 with
          | refl => exact hs
          | step _ h1 ih => exact h.closed _ _ ih h1
        rw [this]; rfl
    rw [this]; exact h.fits
  rcases h3 with h3 | h3
  · rcases h4 with h4 | h4
    · exact ⟨h4, h3⟩
    · rw [same _ (by omega) h4] at h1; cases h1
  · rw [same _ (by omega) h3] at h2; cases h2
theorem solveN_spec (k : Nat) (hk : k ≤ n) : (∀ s o, solveN n (impL cl) k = some (s, o) → SI n cl k s o) ∧ (solveN n (impL cl) k = none → ∃ i, i < n ∧ Path (impL cl) (2 * i) (2 * i + 1) ∧ Path (impL cl) (2 * i + 1) (2 * i)) := by
  induction k with
  | zero =>
    refine ⟨fun s o e => ?_, fun e => (by cases e)⟩
    cases e
    refine ⟨rfl, ?_, fun p h => ?_, fun p q h => ?_, fun i hi => by omega, fun q h => ?_, fun a _ i hi => by omega⟩
    · rw [fits_iff]; intro i _; simp
    all_goals (rw [Nat.zero_testBit] at h; cases h)
  | succ k ih =>
    obtain ⟨h1, h2⟩ := ih (by omega)
    unfold solveN
    cases e : solveN n (impL cl) k with
    | none => exact ⟨fun s o e' => (by cases e'), fun _ => h2 e⟩
    | some so =>
      obtain ⟨s, o⟩ := so
      have h := h1 s o e
      simp only
      unfold solveI
      cases hf : fitsB n (s ||| rs (2 * n) (impL cl) (2 * k + 1)) with
      | true =>
        refine ⟨fun s' o' e' => ?_, fun e' => ?_⟩
        · simp only [if_true] at e'
          cases e'
          exact h.add hn hg (by omega) false (by simpa using hf) (fun h => by cases h)
        · simp at e'
      | false =>
        cases hf2 : fitsB n (s ||| rs (2 * n) (impL cl) (2 * k)) with
        | true =>
          refine ⟨fun s' o' e' => ?_, fun e' => ?_⟩
          · simp only [Bool.false_eq_true, if_false, if_true] at e'
            cases e'
            exact h.add hn hg (by omega) true (by simpa using hf2) (fun _ => hf)
          · simp at e'
        | false =>
          refine ⟨fun s' o' e' => ?_, fun _ => ⟨k, by omega, h.both hn hg (by omega) hf hf2⟩⟩
          simp at e'
theorem solve_some {o : List Bool} (h : solve n cl = some o) : o.length = n ∧ rightB cl o = true ∧ ∀ (a : List Bool), rightB cl a = true → ∀ i, i < n → (∀ j, j < i → a.getD j default = o.getD j default) → a.getD i default = false → o.getD i default = false := by
  unfold solve at h
  cases e : solveN n (impL cl) n with
  | none => rw [e] at h; cases h
  | some so =>
    obtain ⟨s, o'⟩ := so
    rw [e] at h
    cases h
    have h := (solveN_spec hn hg n (Nat.le_refl _)).1 s o' e
    refine ⟨h.len, ?_, h.least⟩
    have hlit : ∀ p, p < 2 * n → (litB o' p = true ↔ s.testBit p = true) := by
      intro p hp
      have h1 := h.has (p / 2) (by omega)
      have h2 := fits_iff.1 h.fits (p / 2) (by omega)
      unfold litB
      by_cases hm : p % 2 = 0
      · rw [if_pos hm]
        have e1 : 2 * (p / 2) = p := by omega
        rw [e1] at h1 h2
        cases ho : o'.getD (p / 2) default
        · rw [ho] at h1; simp only [Bool.false_eq_true, if_false] at h1
          simp [h1] at h2; simp [h2]
        · rw [ho] at h1; simp only [if_true] at h1
          simp [h1]
      · rw [if_neg hm]
        have e1 : 2 * (p / 2) + 1 = p := by omega
        rw [e1] at h1 h2
        cases ho : o'.getD (p / 2) default
        · rw [ho] at h1; simp only [Bool.false_eq_true, if_false] at h1
          simp [h1]
        · rw [ho] at h1; simp only [if_true] at h1
          simp [h1] at h2; simp [h2]
    refine right_iff.2 fun p q hp hpq => ?_
    have hl := imp_good hg _ hpq
    rw [hlit _ hl.1] at hp
    rw [hlit _ hl.2]
    exact h.closed p q hp hpq
theorem solve_none (h : solve n cl = none) : ∃ i, i < n ∧ Path (impL cl) (2 * i) (2 * i + 1) ∧ Path (impL cl) (2 * i + 1) (2 * i) := by
  unfold solve at h
  cases e : solveN n (impL cl) n with
  | none => exact (solveN_spec hn hg n (Nat.le_refl _)).2 e
  | some so => rw [e] at h; cases h
omit hn hg in
theorem both_wrong {i : Nat} (h1 : Path (impL cl) (2 * i) (2 * i + 1)) (h2 : Path (impL cl) (2 * i + 1) (2 * i)) (a : List Bool) : rightB cl a = false := by
  rw [← Bool.not_eq_true]
  intro ha
  have e : litB a (2 * i + 1) = !litB a (2 * i) := by rw [← neg_even, lit_neg]
  cases hl : litB a (2 * i) with
  | true => have := right_path ha hl h1; rw [e, hl] at this; cases this
  | false => have := right_path ha (by rw [e, hl]; rfl) h2; rw [hl] at this; cases this
theorem solve_none_iff : solve n cl = none ↔ ∀ a, rightB cl a = false := by
  constructor
  · intro h a
    obtain ⟨i, _, h1, h2⟩ := solve_none hn hg h
    exact both_wrong h1 h2 a
  · intro h
    cases e : solve n cl with
    | none => rfl
    | some o => have := (solve_some hn hg e).2.1; rw [h] at this; cases this
end
end Go.Proofs

namespace Go.Proofs
open Go.Aw
/-- All that some points have. -/
def orL (next : List Nat) (L : List Nat) : Nat := L.foldl (fun u b => u ||| next.getD b default) 0
theorem orL_snoc (next L : List Nat) (b : Nat) : orL next (L ++ [b]) = orL next L ||| next.getD b default := by simp [orL]
theorem orL_bit (next L : List Nat) (j : Nat) : (orL next L).testBit j = true ↔ ∃ b ∈ L, (next.getD b default).testBit j = true := by
  unfold orL
  have : ∀ u : Nat, (L.foldl (fun u b => u ||| next.getD b default) u).testBit j = true ↔ u.testBit j = true ∨ ∃ b ∈ L, (next.getD b default).testBit j = true := by
    induction L with
    | nil => intro u; simp
    | cons b L ih =>
      intro u
      rw [List.foldl_cons, ih, Nat.testBit_or, Bool.or_eq_true]
      constructor
      · rintro ((h | h) | ⟨c, h1, h2⟩)
        · exact .inl h
        · exact .inr ⟨b, by simp, h⟩
        · exact .inr ⟨c, by simp [h1], h2⟩
      · rintro (h | ⟨c, h1, h2⟩)
        · exact .inl (.inl h)
        · rcases List.mem_cons.1 h1 with rfl | h1
          · exact .inl (.inr h2)
          · exact .inr ⟨c, h1, h2⟩
  rw [this]
  simp
theorem orL_lt {next : List Nat} (hn : ∀ x ∈ next, x < 2 ^ 64) (L : List Nat) : orL next L < 2 ^ 64 := by
  apply Nat.lt_pow_two_of_testBit
  intro i hi
  rw [← Bool.not_eq_true, orL_bit]
  rintro ⟨b, _, h⟩
  have : next.getD b default < 2 ^ 64 := by
    rw [List.getD_eq_getElem?_getD]
    cases hx : next[b]? with
    | none => decide
    | some y => exact hn y (List.mem_of_getElem? hx)
  rw [Nat.testBit_lt_two_pow (Nat.lt_of_lt_of_le this (Nat.pow_le_pow_right (by omega) hi))] at h
  cases h
/-- Those that can be next. -/
def freeS (next : List Nat) (left : Nat) : Nat := dif left (orL next (pts left))
def topoGo (next : List Nat) : Nat → Nat → List Nat → Option (List Nat)
  | 0, _, acc => some acc
  | m + 1, left, acc => if left = 0 then some acc else if pts (freeS next left) = [] then none else topoGo next m (dif left (2 ^ low (freeS next left))) (acc ++ [low (freeS next left)])
/-- The order of the points. -/
def topoO (n : Nat) (l : List (Nat × Nat)) : Option (List Nat) := topoGo (outS n l) n (2 ^ n - 1) []
/-- What holds of an order that is begun. -/
structure TI (n : Nat) (l : List (Nat × Nat)) (left : Nat) (acc : List Nat) : Prop where
  lt : ∀ i, left.testBit i = true → i < n
  all : ∀ i, i < n → (left.testBit i = true ∨ i ∈ acc)
  out : ∀ i ∈ acc, i < n ∧ left.testBit i = false
  nodup : acc.Nodup
  fwd : ∀ (a b : Nat), (a, b) ∈ l → ∀ (s t : List Nat), acc = s ++ b :: t → a ∈ s
theorem low_mem {s : Nat} (h : pts s ≠ []) : low s ∈ pts s := by
  unfold low
  cases hp : pts s with
  | nil => exact absurd hp h
  | cons x t => simp
theorem low_le {s i : Nat} (h : i ∈ pts s) : low s ≤ i := (low_spec ((pts_mem s i).1 h).2 ((pts_mem s i).1 h).1).2.2
theorem free_bit {n : Nat} {l : List (Nat × Nat)} {left : Nat} (hn : n ≤ 64) (hl : ∀ i, left.testBit i = true → i < n) (j : Nat) : (freeS (outS n l) left).testBit j = true ↔ left.testBit j = true ∧ ∀ a, left.testBit a = true → (a, j) ∉ l := by
  unfold freeS
  rw [dif_bit, Bool.and_eq_true, Bool.not_eq_true', ← Bool.not_eq_true, orL_bit]
  refine and_congr_right fun hj => ?_
  constructor
  · intro h a ha hm
    exact h ⟨a, (pts_mem _ _).2 ⟨by have := hl a ha; omega, ha⟩, (outS_bit _ _ _ _).2 ⟨hl a ha, hm⟩⟩
  · rintro h ⟨a, ha, hm⟩
    exact h a ((pts_mem _ _).1 ha).2 ((outS_bit _ _ _ _).1 hm).2
theorem TI.next {n : Nat} {l : List (Nat × Nat)} {left : Nat} {acc : List Nat} (hn : n ≤ 64) (hg : Good n l) (h : TI n l left acc) {j : Nat} (hj : (freeS (outS n l) left).testBit j = true) : TI n l (dif left (2 ^ j)) (acc ++ [j]) := by
  have hf := (free_bit hn h.lt j).1 hj
  have hb : ∀ i, (dif left (2 ^ j)).testBit i = true ↔ left.testBit i = true ∧ ¬ i = j := fun i => by
    rw [dif_bit, Bool.and_eq_true, Bool.not_eq_true', ← Bool.not_eq_true, two_pow_bit]
    exact and_congr_right fun _ => ⟨fun h e => h e.symm, fun h e => h e.symm⟩
  refine ⟨fun i hi => h.lt i ((hb i).1 hi).1, fun i hi => ?_, fun i hi => ?_, ?_, ?_⟩
  · rcases h.all i hi with h1 | h1
    · by_cases e : i = j
      · exact .inr (by simp [e])
      · exact .inl ((hb i).2 ⟨h1, e⟩)
    · exact .inr (by simp [h1])
  · rw [← Bool.not_eq_true, hb]
    rcases List.mem_append.1 hi with h1 | h1
    · obtain ⟨h2, h3⟩ := h.out i h1
      exact ⟨h2, fun h' => by rw [h3] at h'; cases h'.1⟩
    · obtain rfl := List.mem_singleton.1 h1
      exact ⟨h.lt i hf.1, fun h' => h'.2 rfl⟩
  · rw [List.nodup_append]
    refine ⟨h.nodup, by simp, fun a ha b hb e => ?_⟩
    obtain rfl := List.mem_singleton.1 hb
    subst e
    have := (h.out a ha).2
    rw [hf.1] at this; cases this
  · intro a b hab s t e
    rcases List.eq_nil_or_concat t with rfl | ⟨t', x, rfl⟩
    · have e' := congrArg List.reverse e
      simp at e'
      obtain ⟨rfl, rfl⟩ := e'
      rcases h.all a (hg _ hab).1 with h1 | h1
      · exact absurd hab (hf.2 a h1)
      · exact h1
    · have e' : acc ++ [j] = (s ++ b :: t') ++ [x] := by rw [e]; simp
      obtain ⟨e1, _⟩ := List.append_inj' e' rfl
      exact h.fwd a b hab s t' e1
theorem TI.start (n : Nat) (l : List (Nat × Nat)) : TI n l (2 ^ n - 1) [] :=
  ⟨fun i hi => (below_bit n i).1 hi, fun i hi => .inl ((below_bit n i).2 hi), fun i hi => by simp at hi, List.nodup_nil, fun a b _ s t e => by simp at e⟩
/-- How many bits are left. -/
theorem pts_nil {s : Nat} {n : Nat} (hn : n ≤ 64) (hl : ∀ i, s.testBit i = true → i < n) : pts s = [] ↔ s = 0 := by
  constructor
  · intro h
    apply Nat.eq_of_testBit_eq
    intro i
    rw [Nat.zero_testBit, ← Bool.not_eq_true]
    intro hi
    have : i ∈ pts s := (pts_mem s i).2 ⟨by have := hl i hi; omega, hi⟩
    rw [h] at this; cases this
  · rintro rfl
    unfold pts
    rw [List.filter_eq_nil_iff]
    intro a _; simp
theorem pig {α : Type} [BEq α] [LawfulBEq α] : ∀ {L M : List α}, L.Nodup → (∀ x ∈ L, x ∈ M) → L.length ≤ M.length := by
  intro L
  induction L with
  | nil => intro M _ _; simp
  | cons x L ih =>
    intro M hn hs
    obtain ⟨h1, h2⟩ := List.nodup_cons.1 hn
    have hx := hs x (by simp)
    have := ih (M := M.erase x) h2 (fun y hy => (List.mem_erase_of_ne (fun e : y = x => h1 (e ▸ hy))).2 (hs y (by simp [hy])))
    rw [List.length_erase_of_mem hx] at this
    have := List.length_pos_of_mem hx
    simp only [List.length_cons]; omega
/-- In a set of points each of which has one ahead in it there is a ring. -/
theorem ring_of_pred {l : List (Nat × Nat)} {S : Nat → Prop} {n : Nat} (hS : ∀ i, S i → i < n) (hp : ∀ i, S i → ∃ a, S a ∧ (a, i) ∈ l) {i : Nat} (hi : S i) : ∃ j, S j ∧ Path1 l j j := by
  refine Classical.byContradiction fun hno => ?_
  -- a list of points, each ahead of the next, without a point twice, however long
  have key : ∀ m : Nat, ∃ L : List Nat, L.length = m + 1 ∧ L.Nodup ∧ (∀ x ∈ L, S x) ∧ ∀ x t, L = x :: t → ∀ y ∈ t, Path1 l x y := by
    intro m
    induction m with
    | zero => exact ⟨[i], rfl, by simp, by simpa using hi, fun x t e y hy => by simp at e; rw [e.2] at hy; cases hy⟩
    | succ m ih =>
      obtain ⟨L, h1, h2, h3, h4⟩ := ih
      cases L with
      | nil => cases h1
      | cons x t =>
        obtain ⟨a, ha, hax⟩ := hp x (h3 x (by simp))
        have hall : ∀ y ∈ x :: t, Path1 l a y := fun y hy => by
          rcases List.mem_cons.1 hy with rfl | hy
          · exact ⟨_, hax, .refl⟩
          · exact ⟨_, hax, (h4 x t rfl y hy).path⟩
        refine ⟨a :: x :: t, by simpa using h1, List.nodup_cons.2 ⟨fun h => hno ⟨a, ha, hall a h⟩, h2⟩, fun y hy => ?_, fun x' t' e y hy => ?_⟩
        · rcases List.mem_cons.1 hy with rfl | hy
          · exact ha
          · exact h3 y hy
        · cases e; exact hall y hy
  obtain ⟨L, h1, h2, h3, _⟩ := key n
  have hsub : L ⊆ List.range n := fun x hx => by simpa using hS x (h3 x hx)
  have := pig h2 hsub
  simp at this; omega
theorem topoGo_spec {n : Nat} {l : List (Nat × Nat)} (hn : n ≤ 64) (hg : Good n l) : ∀ (m left : Nat) (acc : List Nat), acc.length + m = n → TI n l left acc →
    (∀ o, topoGo (outS n l) m left acc = some o → TI n l 0 o ∧ acc <+: o) ∧ (topoGo (outS n l) m left acc = none → ∃ i, i < n ∧ Path1 l i i) := by
  have z : ∀ left acc, acc.length = n → TI n l left acc → left = 0 := by
    intro left acc hl h
    apply Nat.eq_of_testBit_eq
    intro i
    rw [Nat.zero_testBit, ← Bool.not_eq_true]
    intro hi
    have hni : i ∉ acc := fun h' => by have := (h.out i h').2; rw [hi] at this; cases this
    have hsub : i :: acc ⊆ List.range n := fun x hx => by
      rcases List.mem_cons.1 hx with rfl | hx
      · simpa using h.lt x hi
      · simpa using (h.out x hx).1
    have := pig (List.nodup_cons.2 ⟨hni, h.nodup⟩) hsub
    simp at this; omega
  intro m
  induction m with
  | zero =>
    intro left acc hl h
    obtain rfl := z left acc (by omega) h
    exact ⟨fun o ho => (by cases ho; exact ⟨h, List.prefix_rfl⟩), fun h' => (by cases h')⟩
  | succ m ih =>
    intro left acc hl h
    unfold topoGo
    by_cases h0 : left = 0
    · subst h0
      rw [if_pos rfl]
      exact ⟨fun o ho => (by cases ho; exact ⟨h, List.prefix_rfl⟩), fun h' => (by cases h')⟩
    · rw [if_neg h0]
      by_cases hf : pts (freeS (outS n l) left) = []
      · rw [if_pos hf]
        refine ⟨fun o ho => (by cases ho), fun _ => ?_⟩
        obtain ⟨i, hi⟩ : ∃ i, left.testBit i = true := Classical.byContradiction fun hno => h0 (Nat.eq_of_testBit_eq fun i => by rw [Nat.zero_testBit, ← Bool.not_eq_true]; exact fun hi => hno ⟨i, hi⟩)
        obtain ⟨j, h1, h2⟩ := ring_of_pred (l := l) (S := fun i => left.testBit i = true) h.lt (fun i hi => Classical.byContradiction fun hno => by
          have : i ∈ pts (freeS (outS n l) left) := (pts_mem _ _).2 ⟨by have := h.lt i hi; omega, (free_bit hn h.lt i).2 ⟨hi, fun a ha hm => hno ⟨a, ha, hm⟩⟩⟩
          rw [hf] at this; cases this) hi
        exact ⟨j, h.lt j h1, h2⟩
      · rw [if_neg hf]
        obtain ⟨h1, h2⟩ := ih _ (acc ++ [low (freeS (outS n l) left)]) (by simp; omega) (h.next hn hg ((pts_mem _ _).1 (low_mem hf)).2)
        exact ⟨fun o ho => ⟨(h1 o ho).1, (List.prefix_append _ _).trans (h1 o ho).2⟩, h2⟩
theorem topo_some {n : Nat} {l : List (Nat × Nat)} (hn : n ≤ 64) (hg : Good n l) {o : List Nat} (h : topoO n l = some o) : TI n l 0 o := ((topoGo_spec hn hg n _ [] (by simp) (.start n l)).1 o h).1
theorem topo_none {n : Nat} {l : List (Nat × Nat)} (hn : n ≤ 64) (hg : Good n l) (h : topoO n l = none) : ∃ i, i < n ∧ Path1 l i i := (topoGo_spec hn hg n _ [] (by simp) (.start n l)).2 h
section
variable {n : Nat} {l : List (Nat × Nat)} {o : List Nat}
theorem TI.mem (h : TI n l 0 o) {i : Nat} : i ∈ o ↔ i < n := ⟨fun hi => (h.out i hi).1, fun hi => (h.all i hi).resolve_left (by simp)⟩
theorem TI.len (h : TI n l 0 o) : o.length = n := by
  have h1 := pig h.nodup (fun x hx => by simpa using h.mem.1 hx : ∀ x ∈ o, x ∈ List.range n)
  have h2 := pig List.nodup_range (fun x hx => h.mem.2 (by simpa using hx) : ∀ x ∈ List.range n, x ∈ o)
  simp at h1 h2; omega
/-- Each line goes on in the order. -/
theorem TI.idx (h : TI n l 0 o) (hg : Good n l) {a b : Nat} (hab : (a, b) ∈ l) : o.idxOf a < o.idxOf b := by
  have hb : b ∈ o := h.mem.2 (hg _ hab).2
  obtain ⟨s, t, e, hbs⟩ := List.append_of_mem hb |> fun ⟨s, t, e⟩ => (⟨s, t, e, by
    have := h.nodup; rw [e, List.nodup_append] at this
    exact fun hs => this.2.2 b hs b (by simp) rfl⟩ : ∃ s t, o = s ++ b :: t ∧ b ∉ s)
  have ha := h.fwd a b hab s t e
  rw [e, List.idxOf_append, List.idxOf_append, if_pos ha, if_neg hbs]
  have := List.idxOf_lt_length_of_mem ha
  omega
theorem TI.path (h : TI n l 0 o) (hg : Good n l) {a b : Nat} (hab : Path1 l a b) : o.idxOf a < o.idxOf b := by
  obtain ⟨c, h1, h2⟩ := hab
  have := h.idx hg h1
  have : ∀ x, Path l c x → o.idxOf c ≤ o.idxOf x := fun x hx => by
    induction hx with
    | refl => exact Nat.le_refl _
    | step _ h3 ih => have := h.idx hg h3; omega
  have := this b h2; omega
end
/-- There is no order just if some point comes back to itself. -/
theorem topo_iff {n : Nat} {l : List (Nat × Nat)} (hn : n ≤ 64) (hg : Good n l) : topoO n l = none ↔ ∃ i, Path1 l i i := by
  refine ⟨fun h => ?_, fun ⟨i, hi⟩ => ?_⟩
  · obtain ⟨i, _, h⟩ := topo_none hn hg h; exact ⟨i, h⟩
  · cases h : topoO n l with
    | none => rfl
    | some o => exact absurd ((topo_some hn hg h).path hg hi) (Nat.lt_irrefl _)
end Go.Proofs

namespace Go.Proofs
open Go.Aw
/-- Who asks whom: free ones, how many each has asked, whom each has. -/
structure GS where
  free : List Nat
  nx : List Nat
  has : List Int
def gJ (L : List (List Nat)) (g : GS) (i : Nat) : Nat := (L.getD i default).getD (g.nx.getD i default) default
def gStep (L R : List (List Nat)) (g : GS) : GS :=
  match g.free with
  | [] => g
  | i :: rest =>
    if g.has.getD (gJ L g i) default < 0 then ⟨rest, g.nx.set i (g.nx.getD i default + 1), g.has.set (gJ L g i) i⟩
    else if (R.getD (gJ L g i) default).idxOf i < (R.getD (gJ L g i) default).idxOf (g.has.getD (gJ L g i) default).toNat then ⟨(g.has.getD (gJ L g i) default).toNat :: rest, g.nx.set i (g.nx.getD i default + 1), g.has.set (gJ L g i) i⟩
    else ⟨i :: rest, g.nx.set i (g.nx.getD i default + 1), g.has⟩
def gRun (L R : List (List Nat)) : Nat → GS → GS
  | 0, g => g
  | m + 1, g => if g.free = [] then g else gRun L R m (gStep L R g)
def gStart (n : Nat) : GS := ⟨List.range n, List.replicate n 0, List.replicate n (-1)⟩
def outG (has : List Int) : List Nat := (List.range has.length).foldl (fun o j => o.set (has.getD j default).toNat j) (List.replicate has.length 0)
def gale (n : Nat) (L R : List (List Nat)) : List Nat := outG (gRun L R (n * n) (gStart n)).has
structure Prefs (n : Nat) (L : List (List Nat)) : Prop where
  len : L.length = n
  each : ∀ x ∈ L, x.length = n ∧ x.Nodup ∧ ∀ y ∈ x, y < n
def rk (L : List (List Nat)) (i j : Nat) : Nat := (L.getD i default).idxOf j
/-- Pairs: none twice. -/
structure Pairs (n : Nat) (h : Nat → Nat) : Prop where
  lt : ∀ i, i < n → h i < n
  inj : ∀ i k, i < n → k < n → h i = h k → i = k
theorem Pairs.sur {n : Nat} {h : Nat → Nat} (hp : Pairs n h) {j : Nat} (hj : j < n) : ∃ i, i < n ∧ h i = j := by
  refine Classical.byContradiction fun hno => ?_
  have hnd : (j :: (List.range n).map h).Nodup := by
    refine List.nodup_cons.2 ⟨fun hm => ?_, ?_⟩
    · obtain ⟨i, hi, e⟩ := List.mem_map.1 hm
      exact hno ⟨i, by simpa using hi, e⟩
    · rw [List.Nodup, List.pairwise_map]
      refine (List.nodup_range (n := n)).imp_of_mem fun {a b} ha hb hne e => hne (hp.inj a b (by simpa using ha) (by simpa using hb) e)
  have := pig (M := List.range n) hnd (fun x hx => by
    rcases List.mem_cons.1 hx with rfl | hx
    · simpa using hj
    · obtain ⟨i, hi, rfl⟩ := List.mem_map.1 hx
      simpa using hp.lt i (by simpa using hi))
  simp at this; omega
/-- No two would rather have each other. -/
def Stb (n : Nat) (L R : List (List Nat)) (h : Nat → Nat) : Prop := ∀ i k, i < n → k < n → ¬ (rk L i (h k) < rk L i (h i) ∧ rk R (h k) i < rk R (h k) k)
section
variable {n : Nat} {L R : List (List Nat)}
theorem Prefs.row (h : Prefs n L) {i : Nat} (hi : i < n) : (L.getD i default).length = n ∧ (L.getD i default).Nodup ∧ ∀ y ∈ L.getD i default, y < n := h.each _ (getD_mem (by rw [h.len]; exact hi))
theorem Prefs.mem (h : Prefs n L) {i j : Nat} (hi : i < n) (hj : j < n) : j ∈ L.getD i default := by
  obtain ⟨h1, h2, h3⟩ := h.row hi
  refine Classical.byContradiction fun hno => ?_
  have := pig (M := List.range n) (List.nodup_cons.2 ⟨hno, h2⟩) (fun x hx => by
    rcases List.mem_cons.1 hx with rfl | hx
    · simpa using hj
    · simpa using h3 x hx)
  rw [List.length_cons, h1, List.length_range] at this; omega
theorem Prefs.rk_lt (h : Prefs n L) {i j : Nat} (hi : i < n) (hj : j < n) : rk L i j < n := by
  have := List.idxOf_lt_length_of_mem (h.mem hi hj)
  rw [(h.row hi).1] at this
  exact this
theorem Prefs.get_lt (h : Prefs n L) {i t : Nat} (hi : i < n) (ht : t < n) : (L.getD i default).getD t default < n := (h.row hi).2.2 _ (getD_mem (by rw [(h.row hi).1]; exact ht))
theorem Prefs.rk_get (h : Prefs n L) {i t : Nat} (hi : i < n) (ht : t < n) : rk L i ((L.getD i default).getD t default) = t := by
  obtain ⟨h1, h2, _⟩ := h.row hi
  unfold rk
  generalize L.getD i default = x at h1 h2
  have ht' : t < x.length := by omega
  rw [List.getD_eq_getElem?_getD, List.getElem?_eq_getElem ht', Option.getD_some]
  have := List.idxOf_lt_length_of_mem (List.getElem_mem ht')
  have e := List.getElem_idxOf this
  exact (List.getElem_inj (h₀ := this) (h₁ := ht') h2).1 e
theorem Prefs.get_rk (h : Prefs n L) {i j : Nat} (hi : i < n) (hj : j < n) : (L.getD i default).getD (rk L i j) default = j := by
  have hm := h.mem hi hj
  unfold rk
  generalize L.getD i default = x at hm
  have := List.idxOf_lt_length_of_mem hm
  rw [List.getD_eq_getElem?_getD, List.getElem?_eq_getElem this, Option.getD_some]
  exact List.getElem_idxOf this
theorem Prefs.rk_inj (h : Prefs n L) {i j k : Nat} (hi : i < n) (hj : j < n) (hk : k < n) (e : rk L i j = rk L i k) : j = k := by
  rw [← h.get_rk hi hj, ← h.get_rk hi hk, e]
/-- What holds in each round. -/
structure GI (n : Nat) (L R : List (List Nat)) (g : GS) : Prop where
  ln : g.nx.length = n
  lh : g.has.length = n
  freeLt : ∀ i ∈ g.free, i < n
  nodup : g.free.Nodup
  hasR : ∀ j, j < n → g.has.getD j default = -1 ∨ ∃ i, i < n ∧ g.has.getD j default = (i : Int) ∧ i ∉ g.free ∧ 0 < g.nx.getD i default ∧ (L.getD i default).getD (g.nx.getD i default - 1) default = j
  cov : ∀ i, i < n → i ∈ g.free ∨ ∃ j, j < n ∧ g.has.getD j default = (i : Int)
  nxle : ∀ i, i < n → g.nx.getD i default ≤ n
  prop : ∀ i, i < n → ∀ t, t < g.nx.getD i default → ∃ k, k < n ∧ g.has.getD ((L.getD i default).getD t default) default = (k : Int) ∧ rk R ((L.getD i default).getD t default) k ≤ rk R ((L.getD i default).getD t default) i
  imp : ∀ i, i < n → ∀ t, t < g.nx.getD i default → g.has.getD ((L.getD i default).getD t default) default ≠ (i : Int) → ∀ h, Pairs n h → Stb n L R h → h i ≠ (L.getD i default).getD t default
theorem GI.inj {g : GS} (h : GI n L R g) {j k i : Nat} (hj : j < n) (hk : k < n) (h1 : g.has.getD j default = (i : Int)) (h2 : g.has.getD k default = (i : Int)) : j = k := by
  rcases h.hasR j hj with h3 | ⟨a, _, h3, _, _, h4⟩
  · omega
  · rcases h.hasR k hk with h5 | ⟨b, _, h5, _, _, h6⟩
    · omega
    · have ea : a = i := by omega
      have eb : b = i := by omega
      subst ea
      subst eb
      rw [← h4, ← h6]
/-- Who is free has not asked all. -/
theorem GI.nx_lt {g : GS} (hL : Prefs n L) (h : GI n L R g) {i : Nat} (hi : i ∈ g.free) : g.nx.getD i default < n := by
  have hin := h.freeLt i hi
  have h1 := h.nxle i hin
  refine Classical.byContradiction fun hno => ?_
  have e : g.nx.getD i default = n := by omega
  -- all have someone
  have hall : ∀ j, j < n → ∃ k, k < n ∧ g.has.getD j default = (k : Int) := by
    intro j hj
    obtain ⟨k, hk, h2, _⟩ := h.prop i hin (rk L i j) (by rw [e]; exact hL.rk_lt hin hj)
    rw [hL.get_rk hin hj] at h2
    exact ⟨k, hk, h2⟩
  have hp : Pairs n fun j => (g.has.getD j default).toNat := by
    refine ⟨fun j hj => ?_, fun j k hj hk e' => ?_⟩
    · obtain ⟨k, hk, h2⟩ := hall j hj
      show (g.has.getD j default).toNat < n
      rw [h2]; exact hk
    · obtain ⟨a, _, ha⟩ := hall j hj
      obtain ⟨b, _, hb⟩ := hall k hk
      simp only [ha, hb, Int.toNat_natCast] at e'
      subst e'
      exact h.inj hj hk ha hb
  obtain ⟨j, hj, e'⟩ := hp.sur hin
  obtain ⟨a, _, ha⟩ := hall j hj
  simp only [ha, Int.toNat_natCast] at e'
  subst e'
  rcases h.hasR j hj with h3 | ⟨b, _, h3, h4, _⟩
  · omega
  · have : b = a := by omega
    subst this
    exact h4 hi
theorem getD_set {α : Type} [Inhabited α] (s : List α) (i j : Nat) (x : α) (hi : i < s.length) : (s.set i x).getD j default = if j = i then x else s.getD j default := by
  rw [set_getD]
  by_cases h : i = j
  · subst h; simp [hi]
  · rw [if_neg (fun h' => h h'.1), if_neg (fun e => h e.symm)]
/-- One who asks, and is kept by whom he asks; the other one, if there is one, is free. -/
theorem GI.take {g : GS} {i : Nat} {rest : List Nat} (hL : Prefs n L) (hR : Prefs n R) (h : GI n L R g) (hf : g.free = i :: rest) (f' : List Nat)
    (hw : (g.has.getD (gJ L g i) default = -1 ∧ f' = rest) ∨ ∃ w, w < n ∧ g.has.getD (gJ L g i) default = (w : Int) ∧ rk R (gJ L g i) i < rk R (gJ L g i) w ∧ f' = w :: rest) :
    GI n L R ⟨f', g.nx.set i (g.nx.getD i default + 1), g.has.set (gJ L g i) i⟩ := by
  have hi : i ∈ g.free := by rw [hf]; simp
  have hin := h.freeLt i hi
  have hlt := h.nx_lt hL hi
  have hj : gJ L g i < n := hL.get_lt hin hlt
  have hnd := h.nodup
  rw [hf, List.nodup_cons] at hnd
  have hnx : ∀ k, (g.nx.set i (g.nx.getD i default + 1)).getD k default = if k = i then g.nx.getD i default + 1 else g.nx.getD k default := fun k => getD_set _ _ _ _ (by rw [h.ln]; exact hin)
  have hhas : ∀ k, (g.has.set (gJ L g i) (i : Int)).getD k default = if k = gJ L g i then (i : Int) else g.has.getD k default := fun k => getD_set _ _ _ _ (by rw [h.lh]; exact hj)
  -- i has nobody yet
  have hno : ∀ k, k < n → g.has.getD k default ≠ (i : Int) := by
    intro k hk e
    rcases h.hasR k hk with h3 | ⟨b, _, h3, h4, _⟩
    · omega
    · have : b = i := by omega
      subst this; exact h4 hi
  have hwi : ∀ w : Nat, g.has.getD (gJ L g i) default = (w : Int) → w ≠ i := fun w e e' => hno _ hj (by rw [e, e'])
  have hwf : ∀ w : Nat, g.has.getD (gJ L g i) default = (w : Int) → w ∉ g.free := by
    intro w e
    rcases h.hasR _ hj with h3 | ⟨b, _, h3, h4, _⟩
    · omega
    · have : b = w := by omega
      subst this; exact h4
  have hmem : ∀ x : Nat, x ∈ f' → (x ∈ rest ∨ g.has.getD (gJ L g i) default = (x : Int)) := by
    intro x hx
    rcases hw with ⟨_, e⟩ | ⟨w, _, h1, _, e⟩
    · rw [e] at hx; exact .inl hx
    · rw [e] at hx
      rcases List.mem_cons.1 hx with rfl | hx
      · exact .inr h1
      · exact .inl hx
  refine ⟨by simp [h.ln], by simp [h.lh], fun x hx => ?_, ?_, fun j' hj' => ?_, fun x hx => ?_, fun x hx => ?_, fun x hx t ht => ?_, fun x hx t ht hne0 h' hp hs => ?_⟩
  · rcases hw with ⟨_, e⟩ | ⟨w, h0, _, _, e⟩
    · simp only [e] at hx; exact h.freeLt x (by rw [hf]; simp [hx])
    · simp only [e] at hx
      rcases List.mem_cons.1 hx with rfl | hx
      · exact h0
      · exact h.freeLt x (by rw [hf]; simp [hx])
  · rcases hw with ⟨_, e⟩ | ⟨w, h0, h1, _, e⟩
    · simp only [e]; exact hnd.2
    · simp only [e]
      refine List.nodup_cons.2 ⟨fun h2 => hwf w h1 (by rw [hf]; simp [h2]), hnd.2⟩
  · show (g.has.set (gJ L g i) (i : Int)).getD j' default = -1 ∨ ∃ x, x < n ∧ (g.has.set (gJ L g i) (i : Int)).getD j' default = (x : Int) ∧ x ∉ f' ∧ 0 < (g.nx.set i (g.nx.getD i default + 1)).getD x default ∧ (L.getD x default).getD ((g.nx.set i (g.nx.getD i default + 1)).getD x default - 1) default = j'
    rw [hhas]
    by_cases e : j' = gJ L g i
    · rw [if_pos e]
      refine .inr ⟨i, hin, rfl, fun h2 => ?_, by rw [hnx, if_pos rfl]; omega, by rw [hnx, if_pos rfl, e]; rfl⟩
      rcases hmem i h2 with h3 | h3
      · exact hnd.1 h3
      · exact hwi i h3 rfl
    · rw [if_neg e]
      rcases h.hasR j' hj' with h3 | ⟨b, hb, h3, h4, h5, h6⟩
      · exact .inl h3
      · have hbi : b ≠ i := fun e' => h4 (by rw [e']; exact hi)
        refine .inr ⟨b, hb, h3, fun h2 => ?_, by rw [hnx, if_neg hbi]; exact h5, by rw [hnx, if_neg hbi]; exact h6⟩
        rcases hmem b h2 with h7 | h7
        · exact h4 (by rw [hf]; simp [h7])
        · exact e (h.inj hj' hj h3 h7)
  · show x ∈ f' ∨ ∃ j, j < n ∧ (g.has.set (gJ L g i) (i : Int)).getD j default = (x : Int)
    rcases h.cov x hx with h1 | ⟨j', hj', h1⟩
    · rw [hf] at h1
      rcases List.mem_cons.1 h1 with rfl | h1
      · exact .inr ⟨_, hj, by rw [hhas, if_pos rfl]⟩
      · refine .inl ?_
        rcases hw with ⟨_, e⟩ | ⟨w, _, _, _, e⟩
        · rw [e]; exact h1
        · rw [e]; simp [h1]
    · by_cases e : j' = gJ L g i
      · subst e
        rcases hw with ⟨h2, _⟩ | ⟨w, _, h2, _, e⟩
        · omega
        · have : w = x := by omega
          subst this
          rw [e]; simp
      · exact .inr ⟨j', hj', by rw [hhas, if_neg e]; exact h1⟩
  · show (g.nx.set i (g.nx.getD i default + 1)).getD x default ≤ n
    rw [hnx]
    split
    · omega
    · exact h.nxle x hx
  · show ∃ k, k < n ∧ (g.has.set (gJ L g i) (i : Int)).getD ((L.getD x default).getD t default) default = (k : Int) ∧ _
    have ht : t < (g.nx.set i (g.nx.getD i default + 1)).getD x default := ht
    rw [hnx] at ht
    rw [hhas]
    by_cases e : (L.getD x default).getD t default = gJ L g i
    · rw [if_pos e, e]
      refine ⟨i, hin, rfl, ?_⟩
      by_cases hxi : x = i
      · subst hxi; exact Nat.le_refl _
      · rw [if_neg hxi] at ht
        obtain ⟨k, hk, h1, h2⟩ := h.prop x hx t ht
        rw [e] at h1 h2
        rcases hw with ⟨h3, _⟩ | ⟨w, _, h3, h4, _⟩
        · omega
        · have : w = k := by omega
          subst this; omega
    · rw [if_neg e]
      by_cases hxi : x = i
      · subst hxi
        rw [if_pos rfl] at ht
        have : t < g.nx.getD x default := by
          rcases Nat.lt_or_ge t (g.nx.getD x default) with h' | h'
          · exact h'
          · have : t = g.nx.getD x default := by omega
            subst this; exact absurd rfl e
        exact h.prop x hx t this
      · rw [if_neg hxi] at ht
        exact h.prop x hx t ht
  · have ht : t < (g.nx.set i (g.nx.getD i default + 1)).getD x default := ht
    have hne : (g.has.set (gJ L g i) (i : Int)).getD ((L.getD x default).getD t default) default ≠ (x : Int) := hne0
    clear hne0
    rw [hnx] at ht
    rw [hhas] at hne
    by_cases e : (L.getD x default).getD t default = gJ L g i
    · rw [if_pos e] at hne
      have hxi : x ≠ i := fun e' => hne (by rw [e'])
      rw [if_neg hxi] at ht
      rw [e]
      by_cases hx2 : g.has.getD (gJ L g i) default = (x : Int)
      · -- x was put away for i
        rcases hw with ⟨h3, _⟩ | ⟨w, _, h3, h4, _⟩
        · omega
        · have : w = x := by omega
          subst this
          intro he
          have hst := hs i w hin hx
          rw [he] at hst
          have h5 : ¬ rk L i (gJ L g i) < rk L i (h' i) := fun h5 => hst ⟨h5, h4⟩
          have hi' := hp.lt i hin
          have e1 : rk L i (gJ L g i) = g.nx.getD i default := hL.rk_get hin hlt
          have e2 : h' i ≠ gJ L g i := fun e3 => hxi (hp.inj w i hx hin (by rw [he, e3]))
          have h6 : rk L i (h' i) ≠ rk L i (gJ L g i) := fun e3 => e2 (hL.rk_inj hin hi' hj e3)
          have h7 := h.imp i hin (rk L i (h' i)) (by omega) (by rw [hL.get_rk hin hi']; exact hno _ hi') h' hp hs
          rw [hL.get_rk hin hi'] at h7
          exact h7 rfl
      · have := h.imp x hx t ht (by rw [e]; exact hx2) h' hp hs
        rw [e] at this; exact this
    · rw [if_neg e] at hne
      by_cases hxi : x = i
      · subst hxi
        rw [if_pos rfl] at ht
        have : t < g.nx.getD x default := by
          rcases Nat.lt_or_ge t (g.nx.getD x default) with h' | h'
          · exact h'
          · have : t = g.nx.getD x default := by omega
            subst this; exact absurd rfl e
        exact h.imp x hx t this hne h' hp hs
      · rw [if_neg hxi] at ht
        exact h.imp x hx t ht hne h' hp hs
/-- One who asks, and is not taken. -/
theorem GI.keep {g : GS} {i w : Nat} {rest : List Nat} (hL : Prefs n L) (hR : Prefs n R) (h : GI n L R g) (hf : g.free = i :: rest) (hw : w < n) (hh : g.has.getD (gJ L g i) default = (w : Int))
    (hlt2 : ¬ rk R (gJ L g i) i < rk R (gJ L g i) w) : GI n L R ⟨i :: rest, g.nx.set i (g.nx.getD i default + 1), g.has⟩ := by
  have hi : i ∈ g.free := by rw [hf]; simp
  have hin := h.freeLt i hi
  have hlt := h.nx_lt hL hi
  have hj : gJ L g i < n := hL.get_lt hin hlt
  have hnx : ∀ k, (g.nx.set i (g.nx.getD i default + 1)).getD k default = if k = i then g.nx.getD i default + 1 else g.nx.getD k default := fun k => getD_set _ _ _ _ (by rw [h.ln]; exact hin)
  have hwf : w ∉ g.free := by
    rcases h.hasR _ hj with h3 | ⟨b, _, h3, h4, _⟩
    · omega
    · have : b = w := by omega
      subst this; exact h4
  have hwi : w ≠ i := fun e => hwf (by rw [e]; exact hi)
  refine ⟨by simp [h.ln], h.lh, fun x hx => h.freeLt x (by rw [hf]; exact hx), by have := h.nodup; rw [hf] at this; exact this, fun j' hj' => ?_, fun x hx => by have := h.cov x hx; rw [hf] at this; exact this, fun x hx => ?_, fun x hx t ht => ?_, fun x hx t ht hne0 h' hp hs => ?_⟩
  · rcases h.hasR j' hj' with h3 | ⟨b, hb, h3, h4, h5, h6⟩
    · exact .inl h3
    · have hbi : b ≠ i := fun e' => h4 (by rw [e']; exact hi)
      refine .inr ⟨b, hb, h3, by rw [hf] at h4; exact h4, ?_, ?_⟩
      · show 0 < (g.nx.set i (g.nx.getD i default + 1)).getD b default
        rw [hnx, if_neg hbi]; exact h5
      · show (L.getD b default).getD ((g.nx.set i (g.nx.getD i default + 1)).getD b default - 1) default = j'
        rw [hnx, if_neg hbi]; exact h6
  · show (g.nx.set i (g.nx.getD i default + 1)).getD x default ≤ n
    rw [hnx]
    split
    · omega
    · exact h.nxle x hx
  · have ht : t < (g.nx.set i (g.nx.getD i default + 1)).getD x default := ht
    show ∃ k, k < n ∧ g.has.getD ((L.getD x default).getD t default) default = (k : Int) ∧ _
    rw [hnx] at ht
    by_cases hxi : x = i
    · subst hxi
      rw [if_pos rfl] at ht
      by_cases h1 : t < g.nx.getD x default
      · exact h.prop x hx t h1
      · have : t = g.nx.getD x default := by omega
        subst this
        exact ⟨w, hw, hh, by show rk R (gJ L g x) w ≤ rk R (gJ L g x) x; omega⟩
    · rw [if_neg hxi] at ht
      exact h.prop x hx t ht
  · have ht : t < (g.nx.set i (g.nx.getD i default + 1)).getD x default := ht
    have hne : g.has.getD ((L.getD x default).getD t default) default ≠ (x : Int) := hne0
    clear hne0
    rw [hnx] at ht
    by_cases hxi : x = i
    · subst hxi
      rw [if_pos rfl] at ht
      by_cases h1 : t < g.nx.getD x default
      · exact h.imp x hx t h1 hne h' hp hs
      · have : t = g.nx.getD x default := by omega
        subst this
        show h' x ≠ gJ L g x
        intro he
        have hst := hs w x hw hx
        rw [he] at hst
        have hw' := hp.lt w hw
        have e2 : h' w ≠ gJ L g x := fun e3 => hwi (hp.inj w x hw hx (by rw [he, e3]))
        have h4 : rk R (gJ L g x) w ≠ rk R (gJ L g x) x := fun e3 => hwi (hR.rk_inj hj hw hx e3)
        have h5 : ¬ rk L w (gJ L g x) < rk L w (h' w) := fun h5 => hst ⟨h5, by omega⟩
        have h6 : rk L w (h' w) ≠ rk L w (gJ L g x) := fun e3 => e2 (hL.rk_inj hw hw' hj e3)
        -- w has asked h' w before
        rcases h.hasR _ hj with h3 | ⟨b, _, h3, _, h7, h8⟩
        · omega
        · have : b = w := by omega
          subst this
          have e1 : rk L b (gJ L g x) = g.nx.getD b default - 1 := by
            rw [← h8]
            exact hL.rk_get hw (by have := h.nxle b hw; omega)
          have h9 := h.imp b hw (rk L b (h' b)) (by omega) (by
            rw [hL.get_rk hw hw']
            intro e3
            exact e2 (h.inj hw' hj e3 hh)) h' hp hs
          rw [hL.get_rk hw hw'] at h9
          exact h9 rfl
    · rw [if_neg hxi] at ht
      exact h.imp x hx t ht hne h' hp hs
theorem GI.step {g : GS} (hL : Prefs n L) (hR : Prefs n R) (h : GI n L R g) : GI n L R (gStep L R g) := by
  obtain ⟨free, nx, has⟩ := g
  cases free with
  | nil => exact h
  | cons i rest =>
    have hin := h.freeLt i (by simp)
    have hj : gJ L ⟨i :: rest, nx, has⟩ i < n := hL.get_lt hin (h.nx_lt hL (by simp))
    show GI n L R (if _ then _ else if _ then _ else _)
    split
    · rename_i h0
      refine h.take hL hR rfl _ (.inl ⟨?_, rfl⟩)
      rcases h.hasR _ hj with h3 | ⟨b, _, h3, _⟩
      · exact h3
      · simp only at h0 h3; omega
    · rename_i h0
      rcases h.hasR _ hj with h3 | ⟨b, hb, h3, _⟩
      · simp only at h0 h3; omega
      · have e : (has.getD (gJ L ⟨i :: rest, nx, has⟩ i) default).toNat = b := by simp only at h3; rw [h3]; rfl
        simp only [e]
        split
        · rename_i h1
          exact h.take hL hR rfl _ (.inr ⟨b, hb, h3, h1, rfl⟩)
        · rename_i h1
          exact h.keep hL hR rfl hb h3 h1
theorem GI.start (n : Nat) (L R : List (List Nat)) : GI n L R (gStart n) := by
  have hz : ∀ i, (List.replicate n 0).getD i default = 0 := fun i => by
    rw [List.getD_eq_getElem?_getD, List.getElem?_replicate]; split <;> rfl
  refine ⟨by simp [gStart], by simp [gStart], fun i hi => by simpa [gStart] using hi, List.nodup_range, fun j hj => .inl ?_, fun i hi => .inl (by simpa [gStart] using hi), fun i hi => ?_, fun i hi t ht => ?_, fun i hi t ht => ?_⟩
  · simp only [gStart]
    rw [List.getD_eq_getElem?_getD, List.getElem?_replicate, if_pos hj]; rfl
  · simp only [gStart, hz]; omega
  · simp only [gStart, hz] at ht; omega
  · simp only [gStart, hz] at ht; omega
/-- How much has been asked. -/
def asked (g : GS) : Nat := g.nx.sum
theorem sum_set (s : List Nat) (i : Nat) (hi : i < s.length) : (s.set i (s.getD i default + 1)).sum = s.sum + 1 := by
  induction s generalizing i with
  | nil => simp at hi
  | cons x s ih =>
    cases i with
    | zero => simp only [List.set_cons_zero, List.getD_cons_zero, List.sum_cons]; omega
    | succ i => simp only [List.set_cons_succ, List.getD_cons_succ, List.sum_cons]; rw [ih i (by simpa using hi)]; omega
theorem gStep_asked {g : GS} (h : GI n L R g) (hf : g.free ≠ []) : asked (gStep L R g) = asked g + 1 := by
  obtain ⟨free, nx, has⟩ := g
  cases free with
  | nil => exact absurd rfl hf
  | cons i rest =>
    have := sum_set nx i (by rw [h.ln]; exact h.freeLt i (by simp))
    show asked (if _ then _ else if _ then _ else _) = _
    split
    · exact this
    · split <;> exact this
theorem sum_le {s : List Nat} {m : Nat} (h : ∀ x ∈ s, x ≤ m) : s.sum ≤ s.length * m := by
  induction s with
  | nil => simp
  | cons x s ih =>
    have h1 := h x (by simp)
    have h2 := ih (fun y hy => h y (by simp [hy]))
    simp only [List.sum_cons, List.length_cons, Nat.succ_mul]; omega
theorem sum_lt {s : List Nat} {m : Nat} (h : ∀ x ∈ s, x ≤ m) {i : Nat} (hi : i < s.length) (h2 : s.getD i default < m) : s.sum < s.length * m := by
  induction s generalizing i with
  | nil => simp at hi
  | cons x s ih =>
    have h1 := h x (by simp)
    have h3 : ∀ y ∈ s, y ≤ m := fun y hy => h y (by simp [hy])
    simp only [List.sum_cons, List.length_cons, Nat.succ_mul]
    cases i with
    | zero => have := sum_le h3; simp only [List.getD_cons_zero] at h2; omega
    | succ i => have := ih h3 (by simpa using hi) (by simpa using h2); omega
theorem GI.asked_le {g : GS} (h : GI n L R g) : asked g ≤ n * n := by
  have := sum_le (s := g.nx) (m := n) (fun x hx => by
    obtain ⟨i, hi, rfl⟩ := List.mem_iff_getElem.1 hx
    have := h.nxle i (by rw [← h.ln]; exact hi)
    rwa [List.getD_eq_getElem?_getD, List.getElem?_eq_getElem hi] at this)
  rw [h.ln] at this
  exact this
theorem GI.asked_lt {g : GS} (hL : Prefs n L) (h : GI n L R g) (hf : g.free ≠ []) : asked g < n * n := by
  obtain ⟨i, hi⟩ := List.exists_mem_of_ne_nil _ hf
  have := sum_lt (s := g.nx) (m := n) (fun x hx => by
    obtain ⟨i, hi, rfl⟩ := List.mem_iff_getElem.1 hx
    have := h.nxle i (by rw [← h.ln]; exact hi)
    rwa [List.getD_eq_getElem?_getD, List.getElem?_eq_getElem hi] at this) (i := i) (by rw [h.ln]; exact h.freeLt i hi) (h.nx_lt hL hi)
  rw [h.ln] at this
  exact this
theorem gRun_end (hL : Prefs n L) (hR : Prefs n R) : ∀ (m : Nat) (g : GS), GI n L R g → n * n ≤ asked g + m → GI n L R (gRun L R m g) ∧ (gRun L R m g).free = [] := by
  intro m
  induction m with
  | zero =>
    intro g h hm
    refine ⟨h, Classical.byContradiction fun hf => ?_⟩
    have := h.asked_lt hL hf
    omega
  | succ m ih =>
    intro g h hm
    unfold gRun
    by_cases hf : g.free = []
    · rw [if_pos hf]; exact ⟨h, hf⟩
    · rw [if_neg hf]
      exact ih _ (h.step hL hR) (by rw [gStep_asked h hf]; omega)
theorem outG_get {has : List Int} (n : Nat) (hl : has.length = n) (hr : ∀ j, j < n → ∃ i, i < n ∧ has.getD j default = (i : Int)) (hi : ∀ j k i : Nat, j < n → k < n → has.getD j default = (i : Int) → has.getD k default = (i : Int) → j = k) :
    (outG has).length = n ∧ ∀ j i : Nat, j < n → has.getD j default = (i : Int) → (outG has).getD i default = j := by
  have key : ∀ m, m ≤ n → ((List.range m).foldl (fun o j => o.set (has.getD j default).toNat j) (List.replicate n 0)).length = n ∧ ∀ j i : Nat, j < m → has.getD j default = (i : Int) → ((List.range m).foldl (fun o j => o.set (has.getD j default).toNat j) (List.replicate n 0)).getD i default = j := by
    intro m
    induction m with
    | zero => intro _; exact ⟨by simp, fun j i hj => by omega⟩
    | succ m ih =>
      intro hm
      obtain ⟨h1, h2⟩ := ih (by omega)
      rw [range_foldl]
      refine ⟨by rw [List.length_set]; exact h1, fun j i hj e => ?_⟩
      obtain ⟨k, hk, e2⟩ := hr m (by omega)
      rw [e2, Int.toNat_natCast, getD_set _ _ _ _ (by rw [h1]; exact hk)]
      by_cases hik : i = k
      · subst hik
        rw [if_pos rfl]
        exact hi m j i (by omega) (by omega) e2 e
      · rw [if_neg hik]
        refine h2 j i ?_ e
        rcases Nat.lt_or_ge j m with h3 | h3
        · exact h3
        · have : j = m := by omega
          subst this
          rw [e] at e2
          exact absurd (by omega) hik
  unfold outG
  rw [hl]
  exact key n (Nat.le_refl _)
theorem gale_spec (hL : Prefs n L) (hR : Prefs n R) : (gale n L R).length = n ∧ Pairs n (fun i => (gale n L R).getD i default) ∧ Stb n L R (fun i => (gale n L R).getD i default) ∧
    ∀ h, Pairs n h → Stb n L R h → ∀ i, i < n → rk L i ((gale n L R).getD i default) ≤ rk L i (h i) := by
  obtain ⟨h, hf⟩ := gRun_end hL hR (n * n) (gStart n) (GI.start n L R) (by omega)
  unfold gale
  generalize gRun L R (n * n) (gStart n) = g at h hf
  have hr : ∀ i, i < n → ∃ j, j < n ∧ g.has.getD j default = (i : Int) := fun i hi => (h.cov i hi).resolve_left (by rw [hf]; simp)
  -- each on the right has one
  have hp0 : Pairs n fun i => (if hi : i < n then Classical.choose (hr i hi) else 0) := by
    refine ⟨fun i hi => ?_, fun i k hi hk e => ?_⟩
    · simp only [dif_pos hi]; exact (Classical.choose_spec (hr i hi)).1
    · simp only [dif_pos hi, dif_pos hk] at e
      have h1 := (Classical.choose_spec (hr i hi)).2
      have h2 := (Classical.choose_spec (hr k hk)).2
      rw [e] at h1
      rw [h1] at h2
      exact Int.ofNat_inj.1 h2
  have hs : ∀ j, j < n → ∃ i, i < n ∧ g.has.getD j default = (i : Int) := by
    intro j hj
    obtain ⟨i, hi, e⟩ := hp0.sur hj
    simp only [dif_pos hi] at e
    exact ⟨i, hi, by rw [← e]; exact (Classical.choose_spec (hr i hi)).2⟩
  obtain ⟨h1, h2⟩ := outG_get n h.lh hs (fun j k i hj hk e1 e2 => h.inj hj hk e1 e2)
  have hat : ∀ i, i < n → (outG g.has).getD i default < n ∧ g.has.getD ((outG g.has).getD i default) default = (i : Int) := by
    intro i hi
    obtain ⟨j, hj, e⟩ := hr i hi
    rw [h2 j i hj e]
    exact ⟨hj, e⟩
  have hnx : ∀ i, i < n → 0 < g.nx.getD i default ∧ rk L i ((outG g.has).getD i default) = g.nx.getD i default - 1 := by
    intro i hi
    obtain ⟨h3, h4⟩ := hat i hi
    rcases h.hasR _ h3 with h5 | ⟨b, hb, h5, _, h6, h7⟩
    · omega
    · have : b = i := by omega
      subst this
      refine ⟨h6, ?_⟩
      have := hL.rk_get hi (t := g.nx.getD b default - 1) (by have := h.nxle b hi; omega)
      rw [h7] at this
      exact this
  refine ⟨h1, ⟨fun i hi => (hat i hi).1, fun i k hi hk e => ?_⟩, fun i k hi hk ⟨h3, h4⟩ => ?_, fun h' hp' hs' i hi => ?_⟩
  · have a := (hat i hi).2
    have b := (hat k hk).2
    have e : (outG g.has).getD i default = (outG g.has).getD k default := e
    rw [e, b] at a
    exact (Int.ofNat_inj.1 a).symm
  · -- i asked whom k has
    have h3 : rk L i ((outG g.has).getD k default) < rk L i ((outG g.has).getD i default) := h3
    have h4 : rk R ((outG g.has).getD k default) i < rk R ((outG g.has).getD k default) k := h4
    have hk' := hat k hk
    have h5 := hnx i hi
    obtain ⟨m, hm, h6, h7⟩ := h.prop i hi (rk L i ((outG g.has).getD k default)) (by omega)
    rw [hL.get_rk hi hk'.1] at h6 h7
    have : m = k := by rw [hk'.2] at h6; omega
    subst this
    omega
  · have h5 := hnx i hi
    have hlt := hp'.lt i hi
    show rk L i ((outG g.has).getD i default) ≤ rk L i (h' i)
    refine Classical.byContradiction fun hno => ?_
    have h6 := h.imp i hi (rk L i (h' i)) (by omega) (by
      rw [hL.get_rk hi hlt]
      intro e
      have := h.inj hlt (hat i hi).1 e (hat i hi).2
      rw [this] at hno
      exact hno (Nat.le_refl _)) h' hp' hs'
    rw [hL.get_rk hi hlt] at h6
    exact h6 rfl
/-- Whom one is asked by is the worst. -/
theorem gale_worst (hL : Prefs n L) (hR : Prefs n R) {h : Nat → Nat} (hp : Pairs n h) (hs : Stb n L R h) {i k : Nat} (hi : i < n) (hk : k < n) (e : h k = (gale n L R).getD i default) : rk R (h k) k ≤ rk R (h k) i := by
  obtain ⟨_, h1, _, h2⟩ := gale_spec hL hR
  refine Classical.byContradiction fun hno => ?_
  have h3 := h2 h hp hs i hi
  have h4 := hs i k hi hk
  refine h4 ⟨?_, by omega⟩
  rw [e]
  by_cases h5 : rk L i ((gale n L R).getD i default) = rk L i (h i)
  · have h6 := hL.rk_inj hi (h1.lt i hi) (hp.lt i hi) h5
    rw [← e] at h6
    have := hp.inj k i hk hi h6
    subst this
    exact absurd (Nat.le_refl _) hno
  · omega
end
end Go.Proofs

namespace Go.Proofs
/-- Where a right answer first parts from the least one it says yes. -/
theorem first_yes {n : Nat} {cl : List (Nat × Nat)} (hn : 2 * n ≤ 64) (hg : Good (2 * n) cl) {o a : List Bool} (h : solve n cl = some o) (ha : rightB cl a = true) {i : Nat} (hi : i < n) (hp : ∀ j, j < i → a.getD j default = o.getD j default) (hne : o.getD i default ≠ a.getD i default) : a.getD i default = true := by
  cases e : a.getD i default with
  | true => rfl
  | false =>
    have := (solve_some hn hg h).2.2 a ha i hi hp e
    rw [this, e] at hne
    exact absurd rfl hne
theorem right_sub {cl cl' : List (Nat × Nat)} (hs : ∀ c ∈ cl', c ∈ cl) {a : List Bool} (h : rightB cl a = true) : rightB cl' a = true := by
  unfold rightB at h ⊢
  rw [List.all_eq_true] at h ⊢
  exact fun c hc => h c (hs c hc)
theorem solve_sub {n : Nat} {cl cl' : List (Nat × Nat)} (hn : 2 * n ≤ 64) (hg : Good (2 * n) cl) (hg' : Good (2 * n) cl') (hs : ∀ c ∈ cl', c ∈ cl) {o : List Bool} (h : solve n cl = some o) : ∃ o', solve n cl' = some o' ∧ rightB cl' o = true := by
  have hr := right_sub hs (solve_some hn hg h).2.1
  cases e : solve n cl' with
  | none => rw [(solve_none_iff hn hg').1 e] at hr; cases hr
  | some o' => exact ⟨o', rfl, hr⟩
/-- Both ways round: they are alike. -/
theorem both_alike {cl : List (Nat × Nat)} {a : List Bool} (h : rightB cl a = true) {i j : Nat} (h1 : (2 * i + 1, 2 * j) ∈ cl) (h2 : (2 * j + 1, 2 * i) ∈ cl) : a.getD i default = a.getD j default := by
  unfold rightB at h
  rw [List.all_eq_true] at h
  have l0 : ∀ k, litB a (2 * k) = a.getD k default := fun k => by unfold litB; rw [if_pos (by omega)]; congr 1; omega
  have l1 : ∀ k, litB a (2 * k + 1) = !a.getD k default := fun k => by unfold litB; rw [if_neg (by omega)]; congr 2; omega
  have g1 := h _ h1
  have g2 := h _ h2
  simp only [l0, l1] at g1 g2
  cases h3 : a.getD i default <;> cases h4 : a.getD j default <;> simp_all
/-- Lines to itself are nothing to a path. -/
theorem path_irr {l l' : List (Nat × Nat)} (h : ∀ p q, p ≠ q → ((p, q) ∈ l' ↔ (p, q) ∈ l)) (h2 : ∀ p ∈ l', p.1 ≠ p.2) {a b : Nat} : Path l' a b ↔ Path l a b := by
  constructor
  · intro k
    induction k with
    | refl => exact .refl
    | step _ k ih => exact .step ih ((h _ _ (h2 _ k)).1 k)
  · intro k
    induction k with
    | refl => exact .refl
    | @step b c _ k ih =>
      by_cases e : b = c
      · subst e; exact ih
      · exact .step ih ((h _ _ e).2 k)
/-- Aspvall, Plass, Tarjan. -/
theorem aspvall {n : Nat} {cl l' : List (Nat × Nat)} (hn : 2 * n ≤ 64) (hg : Good (2 * n) cl) (h : ∀ p q, p ≠ q → ((p, q) ∈ l' ↔ (p, q) ∈ impL cl)) (h2 : ∀ p ∈ l', p.1 ≠ p.2) :
    solve n cl = none ↔ ∃ i, i < n ∧ part (2 * n) l' (2 * i) = part (2 * n) l' (2 * i + 1) := by
  have hg' : Good (2 * n) l' := fun p hp => imp_good hg p ((h _ _ (h2 _ hp)).1 hp)
  have key : ∀ i, i < n → (part (2 * n) l' (2 * i) = part (2 * n) l' (2 * i + 1) ↔ Path (impL cl) (2 * i) (2 * i + 1) ∧ Path (impL cl) (2 * i + 1) (2 * i)) := fun i hi => by
    rw [part_iff hn hg' (by omega) (by omega)]
    unfold Mut
    rw [path_irr h h2, path_irr h h2]
  constructor
  · intro e
    obtain ⟨i, hi, h3⟩ := solve_none hn hg e
    exact ⟨i, hi, (key i hi).2 h3⟩
  · rintro ⟨i, hi, e⟩
    obtain ⟨h3, h4⟩ := (key i hi).1 e
    exact (solve_none_iff hn hg).2 (both_wrong h3 h4)
end Go.Proofs

namespace Go.Proofs
open Go.Aw
def isRoot (P : List Nat) (i : Nat) : Bool := decide (P.getD i default = i)
def rank (P : List Nat) (k : Nat) : Nat := (List.range k).countP (isRoot P)
theorem rank_succ (P : List Nat) (k : Nat) : rank P (k + 1) = rank P k + if isRoot P k then 1 else 0 := by
  unfold rank
  rw [List.range_succ, List.countP_append]
  simp [List.countP_cons]
theorem rank_mono (P : List Nat) {i k : Nat} (h : i ≤ k) : rank P i ≤ rank P k := by
  induction h with
  | refl => exact Nat.le_refl _
  | step _ ih => rw [rank_succ]; omega
theorem rank_lt (P : List Nat) {i k : Nat} (h : i < k) (hr : isRoot P i = true) : rank P i < rank P k := by
  have h1 := rank_mono P (show i + 1 ≤ k from h)
  rw [rank_succ, hr] at h1
  simp at h1; omega
theorem rank_le (P : List Nat) (k : Nat) : rank P k ≤ k := by
  have := List.countP_le_length (p := isRoot P) (l := List.range k)
  simpa [rank] using this
/-- Parts numbered by their least points. -/
def numI (P : List Nat) (s : List Nat × Nat) (i : Nat) : List Nat × Nat := if isRoot P i then (s.1.set i s.2, s.2 + 1) else s
def numS (n : Nat) (P : List Nat) (k : Nat) : List Nat × Nat := (List.range k).foldl (numI P) (List.replicate n 0, 0)
theorem numS_succ (n : Nat) (P : List Nat) (k : Nat) : numS n P (k + 1) = numI P (numS n P k) k := range_foldl _ _ _
theorem numS_spec (n : Nat) (P : List Nat) (k : Nat) (hk : k ≤ n) : (numS n P k).1.length = n ∧ (numS n P k).2 = rank P k ∧ ∀ j, j < k → isRoot P j = true → (numS n P k).1.getD j default = rank P j := by
  induction k with
  | zero => exact ⟨by simp [numS], by simp [numS, rank], fun j hj => by omega⟩
  | succ k ih =>
    obtain ⟨h1, h2, h3⟩ := ih (by omega)
    rw [numS_succ]
    unfold numI
    rw [rank_succ]
    split
    · rename_i hr
      refine ⟨by simp [h1], by simp [h2], fun j hj hrj => ?_⟩
      show ((numS n P k).1.set k (numS n P k).2).getD j default = rank P j
      rw [set_getD, h1, h2]
      by_cases e : k = j
      · subst e; rw [if_pos ⟨rfl, by omega⟩]
      · rw [if_neg (fun h => e h.1)]; exact h3 j (by omega) hrj
    · rename_i hr
      refine ⟨h1, by omega, fun j hj hrj => ?_⟩
      have : j ≠ k := fun e => hr (by rw [← e]; exact hrj)
      exact h3 j (by omega) hrj
/-- Of each point which part it is of. -/
def fOutP (n : Nat) (P : List Nat) (k : Nat) : List Nat := (List.range k).map fun i => (numS n P n).1.getD (P.getD i default) default
def fOut (n : Nat) (l : List (Nat × Nat)) : List Nat := fOutP n (strongP n l) n
def fMany (n : Nat) (l : List (Nat × Nat)) : Nat := (numS n (strongP n l) n).2
def crossL (out : List Nat) (l : List (Nat × Nat)) : List (Nat × Nat) := (l.map fun p => (out.getD p.1 default, out.getD p.2 default)).filter fun p => decide (p.1 ≠ p.2)
def fNext (n : Nat) (l : List (Nat × Nat)) : List Nat := outS (fMany n l) (crossL (fOut n l) l)
def linesK (next : List Nat) (k : Nat) : List (Nat × Nat) := (List.range k).flatMap fun a => (pts (next.getD a default)).map fun b => (a, b)
def fLines (n : Nat) (l : List (Nat × Nat)) : List (Nat × Nat) := linesK (fNext n l) (fMany n l)
theorem linesK_succ (next : List Nat) (k : Nat) : linesK next (k + 1) = linesK next k ++ (pts (next.getD k default)).map fun b => (k, b) := by
  unfold linesK
  rw [List.range_succ, List.flatMap_append]
  simp
theorem linesK_mem {next : List Nat} {k a b : Nat} : (a, b) ∈ linesK next k ↔ a < k ∧ b ∈ pts (next.getD a default) := by
  unfold linesK
  rw [List.mem_flatMap]
  constructor
  · rintro ⟨x, hx, h⟩
    obtain ⟨y, hy, e⟩ := List.mem_map.1 h
    cases e
    exact ⟨by simpa using hx, hy⟩
  · rintro ⟨h1, h2⟩
    exact ⟨a, by simpa using h1, List.mem_map.2 ⟨b, h2, rfl⟩⟩
theorem part_set {α : Type} (f : Nat → α) (z : α) {n q : Nat} (h : q < n) : ((List.range n).map fun i => if i < q + 1 then f i else z) = ((List.range n).map fun i => if i < q then f i else z).set q (f q) := by
  refine List.ext_getElem (by simp) fun i h1 h2 => ?_
  rw [List.getElem_set]
  simp only [List.getElem_map, List.getElem_range]
  by_cases e : q = i
  · subst e; simp
  · rw [if_neg e]
    by_cases h3 : i < q
    · rw [if_pos h3, if_pos (by omega)]
    · rw [if_neg h3, if_neg (by omega)]
theorem part_zero {α : Type} (f : Nat → α) (z : α) (n : Nat) : ((List.range n).map fun i => if i < 0 then f i else z) = List.replicate n z := by
  refine List.ext_getElem (by simp) fun i h1 h2 => ?_
  simp
theorem part_all {α : Type} (f : Nat → α) (z : α) (n : Nat) : ((List.range n).map fun i => if i < n then f i else z) = (List.range n).map f := by
  refine List.map_congr_left fun i hi => ?_
  rw [if_pos (by simpa using hi)]
theorem range_getD {α : Type} [Inhabited α] (f : Nat → α) {n i : Nat} (h : i < n) : ((List.range n).map f).getD i default = f i := by
  rw [List.getD_eq_getElem?_getD, List.getElem?_map, List.getElem?_range h]; rfl
section
variable {n : Nat} {l : List (Nat × Nat)} (hn : n ≤ 64) (hg : Good n l)
include hn hg
omit hn hg in
theorem P_get {i : Nat} (hi : i < n) : (strongP n l).getD i default = part n l i := range_getD _ hi
theorem P_lt {i : Nat} (hi : i < n) : (strongP n l).getD i default < n := by
  rw [P_get hi]
  have := (part_mut hn hg hi).2; omega
theorem P_root {i : Nat} (hi : i < n) : isRoot (strongP n l) (part n l i) = true := by
  have h := part_mut hn hg hi
  have hp : part n l i < n := by omega
  unfold isRoot
  rw [P_get hp, decide_eq_true_eq]
  exact (part_iff hn hg hp hi).2 h.1.symm
omit hn hg in
theorem fMany_eq : fMany n l = rank (strongP n l) n := (numS_spec n _ n (Nat.le_refl n)).2.1
omit hn hg in
theorem fMany_le : fMany n l ≤ n := by rw [fMany_eq]; exact rank_le _ _
theorem fOut_get {i : Nat} (hi : i < n) : (fOut n l).getD i default = rank (strongP n l) (part n l i) := by
  unfold fOut fOutP
  rw [range_getD _ hi, P_get hi]
  have := (part_mut hn hg hi).2
  exact (numS_spec n _ n (Nat.le_refl n)).2.2 _ (by omega) (P_root hn hg hi)
theorem fOut_lt {i : Nat} (hi : i < n) : (fOut n l).getD i default < fMany n l := by
  rw [fOut_get hn hg hi, fMany_eq]
  have := (part_mut hn hg hi).2
  exact rank_lt _ (by omega) (P_root hn hg hi)
theorem cross_lt : ∀ p ∈ crossL (fOut n l) l, p.1 < fMany n l ∧ p.2 < fMany n l := by
  intro p hp
  obtain ⟨q, hq, rfl⟩ := List.mem_map.1 (List.mem_filter.1 hp).1
  exact ⟨fOut_lt hn hg (hg q hq).1, fOut_lt hn hg (hg q hq).2⟩
end
end Go.Proofs

namespace Go.Proofs
open Go.Aw
/-- The fewest lines. -/
def fewB (n : Nat) (l : List (Nat × Nat)) (i : Nat) : Nat := dif ((war n l).getD i default) (orL (war n l) (pts ((war n l).getD i default)))
def few (n : Nat) (l : List (Nat × Nat)) : List (Nat × Nat) := (List.range n).flatMap fun i => (pts (fewB n l i)).map fun j => (i, j)
section
variable {n : Nat} {l : List (Nat × Nat)} (hn : n ≤ 64) (hg : Good n l)
include hn hg
theorem war_pts (i j : Nat) : j ∈ pts ((war n l).getD i default) ↔ Path1 l i j := by
  rw [pts_mem, war_bit hg]
  exact ⟨fun h => h.2, fun h => ⟨by have := (h.lt hg).2; omega, h⟩⟩
theorem war_lt : ∀ x ∈ war n l, x < 2 ^ 64 := by
  intro x hx
  obtain ⟨i, hi, rfl⟩ := List.mem_iff_getElem.1 hx
  apply Nat.lt_pow_two_of_testBit
  intro j hj
  rw [← Bool.not_eq_true]
  intro h
  have h2 : ((war n l).getD i default).testBit j = true := by rw [List.getD_eq_getElem?_getD, List.getElem?_eq_getElem hi]; exact h
  rw [war_bit hg] at h2
  have := (h2.lt hg).2; omega
theorem few_mem (i j : Nat) : (i, j) ∈ few n l ↔ Path1 l i j ∧ ∀ k, Path1 l i k → ¬ Path1 l k j := by
  have hb : j ∈ pts (fewB n l i) ↔ Path1 l i j ∧ ∀ k, Path1 l i k → ¬ Path1 l k j := by
    rw [pts_mem, fewB, dif_bit, Bool.and_eq_true, Bool.not_eq_true', ← Bool.not_eq_true, orL_bit, war_bit hg]
    constructor
    · rintro ⟨_, h1, h2⟩
      exact ⟨h1, fun k h3 h4 => h2 ⟨k, (war_pts hn hg i k).2 h3, (war_bit hg k j).2 h4⟩⟩
    · rintro ⟨h1, h2⟩
      exact ⟨by have := (h1.lt hg).2; omega, h1, fun ⟨k, h3, h4⟩ => h2 k ((war_pts hn hg i k).1 h3) ((war_bit hg k j).1 h4)⟩
  rw [few, List.mem_flatMap, ← hb]
  constructor
  · rintro ⟨x, _, h⟩
    obtain ⟨y, hy, e⟩ := List.mem_map.1 h
    cases e
    exact hy
  · intro h
    exact ⟨i, by simpa using ((hb.1 h).1.lt hg).1, List.mem_map.2 ⟨j, h, rfl⟩⟩
theorem few_sub {p : Nat × Nat} (h : p ∈ few n l) : p ∈ l := by
  obtain ⟨i, j⟩ := p
  obtain ⟨⟨c, h1, h2⟩, h3⟩ := (few_mem hn hg i j).1 h
  rcases h2.cases1 with rfl | h2
  · exact h1
  · exact absurd h2 (h3 c ⟨c, h1, .refl⟩)
theorem few_good : Good n (few n l) := fun p hp => hg p (few_sub hn hg hp)
/-- The fewest lines have the same ways. -/
theorem few_path {o : List Nat} (ho : TI n l 0 o) {i j : Nat} : Path1 (few n l) i j ↔ Path1 l i j := by
  refine ⟨fun h => h.mono fun p hp => few_sub hn hg hp, ?_⟩
  have key : ∀ m i j, Path1 l i j → o.idxOf j - o.idxOf i = m → Path1 (few n l) i j := by
    intro m
    induction m using Nat.strongRecOn with
    | _ m ih =>
      intro i j h e
      have h0 := ho.path hg h
      by_cases hk : ∃ k, Path1 l i k ∧ Path1 l k j
      · obtain ⟨k, h1, h2⟩ := hk
        have h3 := ho.path hg h1
        have h4 := ho.path hg h2
        exact (ih _ (by omega) i k h1 rfl).trans (ih _ (by omega) k j h2 rfl).path
      · exact ⟨j, (few_mem hn hg i j).2 ⟨h, fun k h1 h2 => hk ⟨k, h1, h2⟩⟩, .refl⟩
  exact fun h => key _ i j h rfl
omit hn hg in
theorem few_nodup : (few n l).Nodup := by
  unfold few
  rw [List.Nodup, List.pairwise_flatMap]
  refine ⟨fun i _ => ?_, ?_⟩
  · rw [List.pairwise_map]
    exact (List.Pairwise.filter _ List.nodup_range : (pts (fewB n l i)).Nodup).imp fun h e => h (by simpa using e)
  · refine List.nodup_range.imp fun h p hp q hq e => ?_
    obtain ⟨x, _, rfl⟩ := List.mem_map.1 hp
    obtain ⟨y, _, e'⟩ := List.mem_map.1 hq
    rw [← e'] at e
    cases e
    exact h rfl
theorem few_len : (few n l).length ≤ l.length := pig few_nodup fun p hp => few_sub hn hg hp
/-- Without any one of them they are not the same. -/
theorem few_need {k : Nat} (hk : k < (few n l).length) : ∃ i j, Path1 l i j ∧ ¬ Path1 ((few n l).eraseIdx k) i j := by
  refine ⟨((few n l)[k]).1, ((few n l)[k]).2, ?_⟩
  have hm : ((few n l)[k].1, (few n l)[k].2) ∈ few n l := List.getElem_mem hk
  obtain ⟨h1, h2⟩ := (few_mem hn hg _ _).1 hm
  refine ⟨h1, fun ⟨c, h3, h4⟩ => ?_⟩
  have hsub : ∀ p ∈ (few n l).eraseIdx k, p ∈ few n l := fun p hp => List.mem_of_mem_eraseIdx hp
  have hl : ∀ p ∈ (few n l).eraseIdx k, p ∈ l := fun p hp => few_sub hn hg (hsub p hp)
  rcases h4.cases1 with rfl | h4
  · rw [List.mem_eraseIdx_iff_getElem] at h3
    obtain ⟨i, hi, hne, e⟩ := h3
    have := (List.getElem_inj (h₀ := hi) (h₁ := hk) (few_nodup (n := n) (l := l))).1 e
    exact hne this
  · exact h2 c ⟨c, hl _ h3, .refl⟩ (h4.mono hl)
end
theorem few_flip {n : Nat} {l l' : List (Nat × Nat)} (hn : n ≤ 64) (hg : Good n l) (hg' : Good n l') (h : ∀ a b, (a, b) ∈ l' ↔ (b, a) ∈ l) (i j : Nat) : (i, j) ∈ few n l' ↔ (j, i) ∈ few n l := by
  have hp : ∀ a b, Path1 l' a b ↔ Path1 l b a := fun a b => by
    rw [← path1_flip (l := l)]
    have hm : ∀ p, p ∈ l' ↔ p ∈ l.map flip := fun ⟨x, y⟩ => by rw [h, flip_mem]
    exact ⟨fun h => h.mono fun p => (hm p).1, fun h => h.mono fun p => (hm p).2⟩
  rw [few_mem hn hg', few_mem hn hg, hp]
  refine and_congr_right fun _ => ?_
  constructor
  · intro h k h1 h2; exact h k ((hp _ _).2 h2) ((hp _ _).2 h1)
  · intro h k h1 h2; exact h k ((hp _ _).1 h2) ((hp _ _).1 h1)
theorem few_flip_len {n : Nat} {l l' : List (Nat × Nat)} (hn : n ≤ 64) (hg : Good n l) (hg' : Good n l') (h : ∀ a b, (a, b) ∈ l' ↔ (b, a) ∈ l) : (few n l').length = (few n l).length := by
  have key : ∀ {l l' : List (Nat × Nat)} (hg : Good n l) (hg' : Good n l') (h : ∀ a b, (a, b) ∈ l' ↔ (b, a) ∈ l), (few n l').length ≤ (few n l).length := by
    intro l l' hg hg' h
    have : ((few n l').map flip).Nodup := by
      rw [List.Nodup, List.pairwise_map]
      exact (few_nodup (n := n) (l := l')).imp fun {a b} h e => h (by
        obtain ⟨a1, a2⟩ := a; obtain ⟨b1, b2⟩ := b
        simp only [flip, Prod.mk.injEq] at e
        rw [e.1, e.2])
    have := pig (M := few n l) this (fun ⟨x, y⟩ hp => by
      rw [flip_mem] at hp
      exact (few_flip hn hg hg' h y x).1 hp)
    simpa using this
  exact Nat.le_antisymm (key hg hg' h) (key hg' hg fun a b => (h b a).symm)
end Go.Proofs

namespace Go.Proofs
open Go.Aw
/-- A line where a way goes makes no more ways. -/
theorem path1_more {l : List (Nat × Nat)} {a b i j : Nat} (h : Path1 l a b) : Path1 (l ++ [(a, b)]) i j ↔ Path1 l i j := by
  refine ⟨fun hp => ?_, fun hp => hp.mono fun p hp => by simp [hp]⟩
  have key : ∀ {x y}, Path (l ++ [(a, b)]) x y → Path l x y := by
    intro x y hxy
    induction hxy with
    | refl => exact .refl
    | step _ h1 ih =>
      rcases List.mem_append.1 h1 with h2 | h2
      · exact .step ih h2
      · have h2 := List.mem_singleton.1 h2
        cases h2
        exact ih.trans h.path
  obtain ⟨c, h1, h2⟩ := hp
  rcases List.mem_append.1 h1 with h3 | h3
  · exact ⟨c, h3, key h2⟩
  · have h3 := List.mem_singleton.1 h3
    cases h3
    exact h.trans (key h2)
section
variable {n : Nat} {l : List (Nat × Nat)} (hn : n ≤ 64) (hg : Good n l)
include hn hg
omit hn hg in
theorem rank_inj {P : List Nat} {i j : Nat} (hi : isRoot P i = true) (hj : isRoot P j = true) (h : rank P i = rank P j) : i = j := by
  rcases Nat.lt_trichotomy i j with h' | h' | h'
  · have := rank_lt P h' hi; omega
  · exact h'
  · have := rank_lt P h' hj; omega
/-- The number of a point's part. -/
theorem fOut_iff {a b : Nat} (ha : a < n) (hb : b < n) : (fOut n l).getD a default = (fOut n l).getD b default ↔ Mut l a b := by
  rw [fOut_get hn hg ha, fOut_get hn hg hb, ← part_iff hn hg ha hb]
  exact ⟨fun h => rank_inj (P_root hn hg ha) (P_root hn hg hb) h, fun h => by rw [h]⟩
omit hn hg in
theorem rank_sur (P : List Nat) : ∀ (n k : Nat), k < rank P n → ∃ r, r < n ∧ isRoot P r = true ∧ rank P r = k := by
  intro n
  induction n with
  | zero => intro k h; simp [rank] at h
  | succ n ih =>
    intro k h
    rw [rank_succ] at h
    by_cases hk : k < rank P n
    · obtain ⟨r, h1, h2⟩ := ih k hk
      exact ⟨r, by omega, h2⟩
    · by_cases hr : isRoot P n = true
      · rw [if_pos hr] at h
        exact ⟨n, by omega, hr, by omega⟩
      · rw [if_neg hr] at h; omega
theorem fOut_sur {k : Nat} (hk : k < fMany n l) : ∃ r, r < n ∧ part n l r = r ∧ (fOut n l).getD r default = k := by
  rw [fMany_eq] at hk
  obtain ⟨r, h1, h2, h3⟩ := rank_sur _ _ _ hk
  have h4 : part n l r = r := by
    unfold isRoot at h2
    rw [decide_eq_true_eq, P_get h1] at h2
    exact h2
  refine ⟨r, h1, h4, ?_⟩
  rw [fOut_get hn hg h1, h4, h3]
theorem fNext_lt : ∀ x ∈ fNext n l, x < 2 ^ 64 := outS_lt _ _ fun p hp => by
  have := (cross_lt hn hg p hp).2
  have := fMany_le (n := n) (l := l)
  omega
theorem fLines_mem {a b : Nat} : (a, b) ∈ fLines n l ↔ a ≠ b ∧ ∃ u v, (u, v) ∈ l ∧ (fOut n l).getD u default = a ∧ (fOut n l).getD v default = b := by
  unfold fLines
  rw [linesK_mem]
  unfold fNext
  rw [pts_mem, outS_bit]
  have hc : (a, b) ∈ crossL (fOut n l) l ↔ a ≠ b ∧ ∃ u v, (u, v) ∈ l ∧ (fOut n l).getD u default = a ∧ (fOut n l).getD v default = b := by
    unfold crossL
    rw [List.mem_filter, List.mem_map, decide_eq_true_eq]
    constructor
    · rintro ⟨⟨⟨u, v⟩, h1, h2⟩, h3⟩
      cases h2
      exact ⟨h3, u, v, h1, rfl, rfl⟩
    · rintro ⟨h3, u, v, h1, rfl, rfl⟩
      exact ⟨⟨(u, v), h1, rfl⟩, h3⟩
  rw [← hc]
  refine ⟨fun h => h.2.2.2, fun h => ?_⟩
  have h1 := cross_lt hn hg _ h
  have h2 := fMany_le (n := n) (l := l)
  exact ⟨h1.1, by have := h1.2; simp at this; omega, h1.1, h⟩
theorem fLines_good : Good (fMany n l) (fLines n l) := by
  rintro ⟨a, b⟩ h
  obtain ⟨_, u, v, h1, rfl, rfl⟩ := (fLines_mem hn hg).1 h
  exact ⟨fOut_lt hn hg (hg _ h1).1, fOut_lt hn hg (hg _ h1).2⟩
theorem fold_up {u v : Nat} (hu : u < n) (h : Path l u v) : Path (fLines n l) ((fOut n l).getD u default) ((fOut n l).getD v default) := by
  induction h with
  | refl => exact .refl
  | step h h1 ih =>
    rename_i b c
    by_cases e : (fOut n l).getD b default = (fOut n l).getD c default
    · rw [← e]; exact ih
    · exact .step ih ((fLines_mem hn hg).2 ⟨e, b, c, h1, rfl, rfl⟩)
theorem fold_down {x y : Nat} (h : Path (fLines n l) x y) : ∀ u v, u < n → v < n → (fOut n l).getD u default = x → (fOut n l).getD v default = y → Path l u v := by
  induction h with
  | refl =>
    intro u v hu hv e1 e2
    exact ((fOut_iff hn hg hu hv).1 (e1.trans e2.symm)).1
  | step h h1 ih =>
    intro u v hu hv e1 e2
    obtain ⟨_, p, q, h2, h3, h4⟩ := (fLines_mem hn hg).1 h1
    have hp := (hg _ h2).1
    have hq := (hg _ h2).2
    exact (ih u p hu hp e1 h3).trans ((Path.one h2).trans ((fOut_iff hn hg hq hv).1 (h4.trans e2.symm)).1)
theorem fold_path {u v : Nat} (hu : u < n) (hv : v < n) : Path (fLines n l) ((fOut n l).getD u default) ((fOut n l).getD v default) ↔ Path l u v :=
  ⟨fun h => fold_down hn hg h u v hu hv rfl rfl, fold_up hn hg hu⟩
theorem fold_mut {x y : Nat} (hx : x < fMany n l) (hy : y < fMany n l) (h : Mut (fLines n l) x y) : x = y := by
  obtain ⟨u, hu, _, rfl⟩ := fOut_sur hn hg hx
  obtain ⟨v, hv, _, rfl⟩ := fOut_sur hn hg hy
  exact (fOut_iff hn hg hu hv).2 ⟨(fold_path hn hg hu hv).1 h.1, (fold_path hn hg hv hu).1 h.2⟩
/-- Parts come to no ring. -/
theorem fold_ring (x : Nat) : ¬ Path1 (fLines n l) x x := by
  rintro ⟨c, h1, h2⟩
  have h3 := fLines_good hn hg _ h1
  have := fold_mut hn hg h3.1 h3.2 ⟨.one h1, h2⟩
  exact ((fLines_mem hn hg).1 h1).1 this
theorem fold_topo : ∃ o, topoO (fMany n l) (fLines n l) = some o := by
  have h := topo_iff (n := fMany n l) (by have := fMany_le (n := n) (l := l); omega) (fLines_good hn hg)
  cases h1 : topoO (fMany n l) (fLines n l) with
  | none => obtain ⟨i, hi⟩ := h.1 h1; exact absurd hi (fold_ring hn hg i)
  | some o => exact ⟨o, rfl⟩
/-- Ways between parts are those between their points. -/
theorem fold_ways {u v : Nat} (hu : u < n) (hv : v < n) (e : (fOut n l).getD u default ≠ (fOut n l).getD v default) : Path1 (fLines n l) ((fOut n l).getD u default) ((fOut n l).getD v default) ↔ Path1 l u v := by
  have hp := fold_path hn hg hu hv
  constructor
  · intro h
    rcases (hp.1 h.path).cases1 with rfl | h1
    · exact absurd rfl e
    · exact h1
  · intro h
    rcases (hp.2 h.path).cases1 with h1 | h1
    · exact absurd h1 e
    · exact h1
theorem fold_part {i : Nat} (hi : i < fMany n l) : part (fMany n l) (fLines n l) i = i := by
  have h64 : fMany n l ≤ 64 := by have := fMany_le (n := n) (l := l); omega
  have h := part_mut h64 (fLines_good hn hg) hi
  exact (fold_mut hn hg hi (by omega) h.1).symm
theorem fold_strong : strongP (fMany n l) (fLines n l) = List.range (fMany n l) := by
  unfold strongP
  refine List.ext_getElem (by simp) fun i h1 h2 => ?_
  simp only [List.getElem_map, List.getElem_range]
  exact fold_part hn hg (by simpa using h2)
omit hn hg in
theorem rank_range (m : Nat) : ∀ k, k ≤ m → rank (List.range m) k = k := by
  intro k
  induction k with
  | zero => intro _; rfl
  | succ k ih =>
    intro h
    rw [rank_succ, ih (by omega), if_pos]
    unfold isRoot
    rw [decide_eq_true_eq, List.getD_eq_getElem?_getD, List.getElem?_range (by omega)]; rfl
theorem fold_many : fMany (fMany n l) (fLines n l) = fMany n l := by
  rw [fMany_eq (n := fMany n l), fold_strong hn hg, rank_range _ _ (Nat.le_refl _)]
/-- Folded again, nothing changes. -/
theorem fold_out : fOut (fMany n l) (fLines n l) = List.range (fMany n l) := by
  have h64 : fMany n l ≤ 64 := by have := fMany_le (n := n) (l := l); omega
  have hlen : (fOut (fMany n l) (fLines n l)).length = fMany n l := by simp [fOut, fOutP]
  refine List.ext_getElem (by simp [hlen]) fun i h1 h2 => ?_
  have hi : i < fMany n l := by simpa using h2
  have := fOut_get h64 (fLines_good hn hg) hi
  rw [fold_part hn hg hi, fold_strong hn hg, rank_range _ _ (by omega), List.getD_eq_getElem?_getD, List.getElem?_eq_getElem h1, Option.getD_some] at this
  rw [this]; simp
theorem fold_lines : fLines (fMany n l) (fLines n l) = fLines n l := by
  have hG := fLines_good hn hg
  have h64 : fMany n l ≤ 64 := by have := fMany_le (n := n) (l := l); omega
  have hc : crossL (List.range (fMany n l)) (fLines n l) = fLines n l := by
    unfold crossL
    have e : ((fLines n l).map fun p => ((List.range (fMany n l)).getD p.1 default, (List.range (fMany n l)).getD p.2 default)) = fLines n l := by
      refine (List.map_congr_left fun p hp => ?_).trans (List.map_id _)
      have := hG p hp
      rw [List.getD_eq_getElem?_getD, List.getElem?_range this.1, List.getD_eq_getElem?_getD, List.getElem?_range this.2]; rfl
    rw [e, List.filter_eq_self]
    rintro ⟨a, b⟩ hp
    simpa using ((fLines_mem hn hg).1 hp).1
  have hN : fNext (fMany n l) (fLines n l) = outS (fMany n l) (fLines n l) := by
    unfold fNext
    rw [fold_many hn hg, fold_out hn hg, hc]
  have hb : ∀ a, a < fMany n l → pts ((outS (fMany n l) (fLines n l)).getD a default) = pts ((fNext n l).getD a default) := by
    intro a ha
    unfold pts
    refine List.filter_congr fun j hj => ?_
    have hj : j < 64 := by simpa using hj
    rw [Bool.eq_iff_iff, outS_bit]
    unfold fLines
    rw [linesK_mem, pts_mem]
    exact ⟨fun h => h.2.2.2, fun h => ⟨ha, ha, hj, h⟩⟩
  have key : ∀ k, k ≤ fMany n l → linesK (outS (fMany n l) (fLines n l)) k = linesK (fNext n l) k := by
    intro k
    induction k with
    | zero => intro _; rfl
    | succ k ih =>
      intro h
      rw [linesK_succ, linesK_succ, ih (by omega), hb k (by omega)]
  show linesK (fNext (fMany n l) (fLines n l)) (fMany (fMany n l) (fLines n l)) = linesK (fNext n l) (fMany n l)
  rw [fold_many hn hg, hN, key _ (Nat.le_refl _)]
end
end Go.Proofs

namespace Go.Proofs
/-- The least right answer that begins so. -/
def ans (cl : List (Nat × Nat)) : Nat → List Bool → Option (List Bool)
  | 0, b => if rightB cl b = true then some b else none
  | k + 1, b => match ans cl k (b ++ [false]) with
    | some o => some o
    | none => ans cl k (b ++ [true])
theorem getD_app {b : List Bool} {x : Bool} {j : Nat} (h : j < b.length) : (b ++ [x]).getD j default = b.getD j default := by
  rw [List.getD_eq_getElem?_getD, List.getElem?_append_left h, ← List.getD_eq_getElem?_getD]
theorem getD_last {b : List Bool} {x : Bool} : (b ++ [x]).getD b.length default = x := by
  rw [List.getD_eq_getElem?_getD, List.getElem?_append_right (Nat.le_refl _)]; simp
theorem ans_spec (cl : List (Nat × Nat)) : ∀ (k : Nat) (b : List Bool),
    (∀ o, ans cl k b = some o → o.length = b.length + k ∧ rightB cl o = true ∧ (∀ j, j < b.length → o.getD j default = b.getD j default) ∧
      ∀ a : List Bool, a.length = b.length + k → (∀ j, j < b.length → a.getD j default = b.getD j default) → rightB cl a = true → ∀ i, i < b.length + k → (∀ j, j < i → a.getD j default = o.getD j default) → a.getD i default ≠ o.getD i default → a.getD i default = true) ∧
    (ans cl k b = none → ∀ a : List Bool, a.length = b.length + k → (∀ j, j < b.length → a.getD j default = b.getD j default) → rightB cl a = false) := by
  intro k
  induction k with
  | zero =>
    intro b
    have heq : ∀ a : List Bool, a.length = b.length + 0 → (∀ j, j < b.length → a.getD j default = b.getD j default) → a = b := fun a h1 h2 => by
      refine List.ext_getElem (by omega) fun i hi hi' => ?_
      have := h2 i hi'
      rw [List.getD_eq_getElem?_getD, List.getD_eq_getElem?_getD, List.getElem?_eq_getElem hi, List.getElem?_eq_getElem hi'] at this
      exact this
    unfold ans
    split
    · rename_i h
      refine ⟨fun o ho => ?_, fun h => (by cases h)⟩
      cases ho
      exact ⟨rfl, h, fun _ _ => rfl, fun a h1 h2 _ i hi _ hne => absurd (h2 i (by omega)) hne⟩
    · rename_i h
      refine ⟨fun o ho => (by cases ho), fun _ a h1 h2 => ?_⟩
      rw [heq a h1 h2]; simpa using h
  | succ k ih =>
    intro b
    obtain ⟨f1, f2⟩ := ih (b ++ [false])
    obtain ⟨t1, t2⟩ := ih (b ++ [true])
    have hl : ∀ x : Bool, (b ++ [x]).length = b.length + 1 := fun x => by simp
    have hext : ∀ (a : List Bool) (x : Bool), (∀ j, j < b.length → a.getD j default = b.getD j default) → a.getD b.length default = x → ∀ j, j < (b ++ [x]).length → a.getD j default = (b ++ [x]).getD j default := fun a x h1 h2 j hj => by
      rw [hl] at hj
      by_cases e : j = b.length
      · subst e; rw [h2, getD_last]
      · rw [getD_app (by omega)]; exact h1 j (by omega)
    unfold ans
    cases hf : ans cl k (b ++ [false]) with
    | some o =>
      refine ⟨fun o' ho => ?_, fun h => by cases h⟩
      cases ho
      obtain ⟨g1, g2, g3, g4⟩ := f1 o hf
      rw [hl] at g1 g4
      refine ⟨by omega, g2, fun j hj => by rw [g3 j (by rw [hl]; omega), getD_app hj], fun a h1 h2 h3 i hi h4 h5 => ?_⟩
      cases hx : a.getD b.length default with
      | false => exact g4 a (by omega) (by have := hext a false h2 hx; rw [hl] at this; exact this) h3 i (by omega) h4 h5
      | true =>
        have ho : o.getD b.length default = false := by rw [g3 b.length (by rw [hl]; omega), getD_last]
        have : i = b.length := by
          rcases Nat.lt_trichotomy i b.length with h | h | h
          · exfalso; apply h5; rw [h2 i h, g3 i (by rw [hl]; omega), getD_app h]
          · exact h
          · have := h4 b.length h
            rw [hx, ho] at this; cases this
        rw [this]; exact hx
    | none =>
      have hf2 := f2 hf
      refine ⟨fun o ho => ?_, fun hn a h1 h2 => ?_⟩
      · obtain ⟨g1, g2, g3, g4⟩ := t1 o ho
        rw [hl] at g1 g4
        refine ⟨by omega, g2, fun j hj => by rw [g3 j (by rw [hl]; omega), getD_app hj], fun a h1 h2 h3 i hi h4 h5 => ?_⟩
        cases hx : a.getD b.length default with
        | false =>
          have := hf2 a (by rw [hl]; omega) (hext a false h2 hx)
          rw [this] at h3; cases h3
        | true => exact g4 a (by omega) (by have := hext a true h2 hx; rw [hl] at this; exact this) h3 i (by omega) h4 h5
      · cases hx : a.getD b.length default with
        | false => exact hf2 a (by rw [hl]; omega) (hext a false h2 hx)
        | true => exact t2 hn a (by rw [hl]; omega) (hext a true h2 hx)
/-- It is the one that our way finds. -/
theorem ans_solve {n : Nat} {cl : List (Nat × Nat)} (hn : 2 * n ≤ 64) (hg : Good (2 * n) cl) : ans cl n [] = solve n cl := by
  obtain ⟨h1, h2⟩ := ans_spec cl n []
  cases hs : solve n cl with
  | none =>
    cases ha : ans cl n [] with
    | none => rfl
    | some o => have := (h1 o ha).2.1; rw [(solve_none_iff hn hg).1 hs] at this; cases this
  | some o =>
    obtain ⟨g1, g2, g3⟩ := solve_some hn hg hs
    cases ha : ans cl n [] with
    | none => have := h2 ha o (by simp [g1]) (fun j hj => by simp at hj); rw [g2] at this; cases this
    | some o' =>
      obtain ⟨k1, k2, _, k4⟩ := h1 o' ha
      have k1 : o'.length = n := by simpa using k1
      congr 1
      have key : ∀ m, m ≤ n → ∀ j, j < m → o'.getD j default = o.getD j default := by
        intro m
        induction m with
        | zero => intro _ j hj; omega
        | succ m ihm =>
          intro hm j hj
          by_cases e : j = m
          · subst e
            refine Classical.byContradiction fun hne => ?_
            have e1 := first_yes hn hg hs k2 (i := j) (by omega) (ihm (by omega)) (fun e => hne e.symm)
            have e2 := k4 o (by simp [g1]) (fun j hj => by simp at hj) g2 j (by simp; omega) (fun x hx => (ihm (by omega) x hx).symm) (fun e => hne e.symm)
            exact hne (by rw [e1, e2])
          · exact ihm (by omega) j (by omega)
      refine List.ext_getElem (by omega) fun i hi hi' => ?_
      have := key n (Nat.le_refl _) i (by omega)
      rw [List.getD_eq_getElem?_getD, List.getD_eq_getElem?_getD, List.getElem?_eq_getElem hi, List.getElem?_eq_getElem hi'] at this
      exact this
end Go.Proofs
