/- Part M 1 of what the proof of HalvesKonig stands on: plain facts of graphs and sets, with no program in sight. -/
import Derived.Test.YtblhpmhfhpmifaaDoorAw2
set_option linter.unusedVariables false
set_option linter.unusedSimpArgs false
namespace Go.Proofs
open Go.Aw
set_option linter.unusedSimpArgs false
def pts (s : Nat) : List Nat := (List.range 64).filter fun i => s.testBit i
def ptsI (s : Nat) : List Int := (pts s).map Int.ofNat

theorem pts_len (s : Nat) : (pts s).length ≤ 64 := by
  have := List.length_filter_le (fun i => s.testBit i) (List.range 64)
  simpa [pts] using this
theorem ptsI_len (s : Nat) : (ptsI s).length ≤ 64 := by simpa [ptsI] using pts_len s

def outF (s : List Nat) (p : Nat × Nat) : List Nat := s.set p.1 (s.getD p.1 default ||| 2 ^ p.2)
def outS (n : Nat) (l : List (Nat × Nat)) : List Nat := l.foldl outF (List.replicate n 0)
theorem outS_snoc (n : Nat) (l : List (Nat × Nat)) (p : Nat × Nat) : outS n (l ++ [p]) = outF (outS n l) p := by simp [outS]
theorem outS_len (n : Nat) (l : List (Nat × Nat)) : (outS n l).length = n := by
  unfold outS
  generalize h : List.replicate n 0 = s
  have hs : s.length = n := by rw [← h]; simp
  clear h
  induction l generalizing s with
  | nil => exact hs
  | cons p l ih => exact ih _ (by simp [outF, hs])
theorem outS_lt (n : Nat) (l : List (Nat × Nat)) (hl : ∀ p ∈ l, p.2 < 64) : ∀ x ∈ outS n l, x < 2 ^ 64 := by
  unfold outS
  generalize h : List.replicate n 0 = s
  have hs : ∀ x ∈ s, x < 2 ^ 64 := by rw [← h]; intro x hx; obtain ⟨_, rfl⟩ := List.mem_replicate.1 hx; decide
  clear h
  induction l generalizing s with
  | nil => exact hs
  | cons p l ih =>
    refine ih (fun q hq => hl q (by simp [hq])) _ (fun x hx => ?_)
    rcases List.mem_or_eq_of_mem_set hx with h | rfl
    · exact hs x h
    · refine Nat.or_lt_two_pow ?_ (Nat.pow_lt_pow_right (by omega) (hl p (by simp)))
      rw [List.getD_eq_getElem?_getD]
      cases hx : s[p.1]? with
      | none => decide
      | some y => exact hs y (List.mem_of_getElem? hx)

theorem prefix_map {pre : List Int} {x : Int} {l : List Nat} (h : pre ++ [x] <+: l.map Int.ofNat) : ∃ (p : List Nat) (c : Nat), pre = p.map Int.ofNat ∧ x = (c : Int) ∧ p ++ [c] <+: l := by
  obtain ⟨t, ht⟩ := h
  have hl := congrArg List.length ht
  simp at hl
  refine ⟨l.take pre.length, l.getD pre.length default, ?_, ?_, ?_⟩
  · have := congrArg (List.take pre.length) ht
    rw [← List.map_take] at this
    rw [← this]; simp
  · have := congrArg (fun l => l[pre.length]?) ht
    have hlt : pre.length < l.length := by omega
    simp [hlt] at this
    rw [List.getD_eq_getElem?_getD, List.getElem?_eq_getElem hlt]
    exact this
  · rw [← take_succ_getD (by omega)]
    exact List.take_prefix _ _
theorem ofNat_inj : ∀ {a b : List Nat}, a.map Int.ofNat = b.map Int.ofNat → a = b := by
  intro a
  induction a with
  | nil => intro b h; cases b with
    | nil => rfl
    | cons y b => simp at h
  | cons x a ih => intro b h; cases b with
    | nil => simp at h
    | cons y b =>
      simp only [List.map_cons, List.cons.injEq] at h
      rw [ih h.2, Int.ofNat_inj.1 h.1]
theorem pts_mem (s c : Nat) : c ∈ pts s ↔ c < 64 ∧ s.testBit c = true := by simp [pts]

theorem low_lt {w n c : Nat} (h : w < 2 ^ n) (hc : w.testBit c = true) : c < n := by
  rcases Nat.lt_or_ge c n with h' | h'
  · exact h'
  · rw [Nat.testBit_lt_two_pow (Nat.lt_of_lt_of_le h (Nat.pow_le_pow_right (by omega) h'))] at hc; cases hc
theorem cnt_add (s d : Nat) (h : ∀ j, d.testBit j = true → s.testBit j = false) : cnt (addAll s (pts d)) = cnt s + (pts d).length := by
  have key : ∀ L : List Nat, (∀ j ∈ L, j < 64) → (L.countP fun j => (addAll s (pts d)).testBit j) = (L.countP fun j => s.testBit j) + (L.filter fun j => d.testBit j).length := by
    intro L
    induction L with
    | nil => intro _; rfl
    | cons j L ih =>
      intro hj
      rw [List.countP_cons, List.countP_cons, ih (fun x hx => hj x (by simp [hx])), List.filter_cons]
      have hb : (addAll s (pts d)).testBit j = (s.testBit j || d.testBit j) := by
        rw [Bool.eq_iff_iff, addAll_bit, pts_mem, Bool.or_eq_true]
        have := hj j (by simp)
        constructor
        · rintro (h | ⟨_, h⟩)
          · exact .inl h
          · exact .inr h
        · rintro (h | h)
          · exact .inl h
          · exact .inr ⟨this, h⟩
      have := h j
      cases h1 : s.testBit j <;> cases h2 : d.testBit j <;> simp [hb, h1, h2] at this ⊢ <;> omega
  exact key (List.range 64) (fun j hj => by simpa using hj)

/-! Plain facts of graphs. -/
theorem set_getD {α : Type} [Inhabited α] (s : List α) (i j : Nat) (x : α) : (s.set i x).getD j default = if i = j ∧ j < s.length then x else s.getD j default := by
  rw [List.getD_eq_getElem?_getD, List.getD_eq_getElem?_getD, List.getElem?_set]
  by_cases h : i = j
  · subst h
    by_cases h2 : i < s.length
    · simp [h2]
    · simp [h2]
  · simp [h]
theorem two_pow_bit (i j : Nat) : (2 ^ i).testBit j = true ↔ i = j := by
  by_cases h : i = j
  · subst h; simp [Nat.testBit_two_pow_self]
  · simp [Nat.testBit_two_pow_of_ne h, h]
theorem outS_bit (n : Nat) (l : List (Nat × Nat)) (a b : Nat) : ((outS n l).getD a default).testBit b = true ↔ a < n ∧ (a, b) ∈ l := by
  have : ∀ s : List Nat, s.length = n → (((l.foldl outF s).getD a default).testBit b = true ↔ (s.getD a default).testBit b = true ∨ (a < n ∧ (a, b) ∈ l)) := by
    induction l with
    | nil => intro s _; simp
    | cons p l ih =>
      intro s hs
      rw [List.foldl_cons, ih _ (by simp [outF, hs])]
      unfold outF
      rw [set_getD, hs]
      by_cases h : p.1 = a ∧ a < n
      · rw [if_pos h]
        obtain ⟨rfl, h2⟩ := h
        rw [Nat.testBit_or, Bool.or_eq_true, two_pow_bit, List.mem_cons]
        constructor
        · rintro ((h | rfl) | h)
          · exact .inl h
          · exact .inr ⟨h2, .inl rfl⟩
          · exact .inr ⟨h.1, .inr h.2⟩
        · rintro (h | ⟨_, h | h⟩)
          · exact .inl (.inl h)
          · exact .inl (.inr (by rw [← h]))
          · exact .inr ⟨h2, h⟩
      · rw [if_neg h, List.mem_cons]
        constructor
        · rintro (h | h)
          · exact .inl h
          · exact .inr ⟨h.1, .inr h.2⟩
        · rintro (h' | ⟨h1, h' | h'⟩)
          · exact .inl h'
          · exact absurd ⟨by rw [← h'], h1⟩ h
          · exact .inr ⟨h1, h'⟩
  have h0 := this (List.replicate n 0) (by simp)
  rw [outS, h0]
  have : ((List.replicate n 0).getD a default).testBit b = false := by
    rw [List.getD_eq_getElem?_getD, List.getElem?_replicate]
    split <;> simp
  rw [this]; simp
/-- Ways. -/
inductive Path (l : List (Nat × Nat)) (a : Nat) : Nat → Prop
  | refl : Path l a a
  | step {b c : Nat} (h : Path l a b) (h1 : (b, c) ∈ l) : Path l a c
theorem Path.trans {l : List (Nat × Nat)} {a b c : Nat} (h : Path l a b) (k : Path l b c) : Path l a c := by
  induction k with
  | refl => exact h
  | step _ h1 ih => exact .step ih h1
theorem Path.one {l : List (Nat × Nat)} {a b : Nat} (h : (a, b) ∈ l) : Path l a b := .step .refl h
theorem Path.mono {l l' : List (Nat × Nat)} (hl : ∀ p ∈ l, p ∈ l') {a b : Nat} (h : Path l a b) : Path l' a b := by
  induction h with
  | refl => exact .refl
  | step _ h1 ih => exact .step ih (hl _ h1)
def flip (p : Nat × Nat) : Nat × Nat := (p.2, p.1)
theorem flip_mem {l : List (Nat × Nat)} {a b : Nat} : (a, b) ∈ l.map flip ↔ (b, a) ∈ l := by
  simp only [List.mem_map, flip]
  constructor
  · rintro ⟨⟨x, y⟩, h, e⟩
    cases e
    exact h
  · intro h; exact ⟨_, h, rfl⟩
theorem Path.flip {l : List (Nat × Nat)} {a b : Nat} (h : Path l a b) : Path (l.map flip) b a := by
  induction h with
  | refl => exact .refl
  | step _ h1 ih => exact (Path.one (flip_mem.2 h1)).trans ih
theorem Path.unflip {l : List (Nat × Nat)} {a b : Nat} (h : Path (l.map Go.Proofs.flip) a b) : Path l b a := by
  induction h with
  | refl => exact .refl
  | step _ h1 ih => exact (Path.one (flip_mem.1 h1)).trans ih
theorem path_flip {l : List (Nat × Nat)} {a b : Nat} : Path (l.map flip) a b ↔ Path l b a := ⟨Path.unflip, Path.flip⟩
/-- Lines between n points. -/
def Good (n : Nat) (l : List (Nat × Nat)) : Prop := ∀ p ∈ l, p.1 < n ∧ p.2 < n
theorem Good.flip {n : Nat} {l : List (Nat × Nat)} (h : Good n l) : Good n (l.map flip) := by
  intro p hp
  obtain ⟨q, hq, rfl⟩ := List.mem_map.1 hp
  exact ⟨(h q hq).2, (h q hq).1⟩
theorem Path.lt {n : Nat} {l : List (Nat × Nat)} (hg : Good n l) {a b : Nat} (ha : a < n) (h : Path l a b) : b < n := by
  cases h with
  | refl => exact ha
  | step _ h1 => exact (hg _ h1).2
theorem below_bit (n j : Nat) : (2 ^ n - 1).testBit j = true ↔ j < n := by
  rw [Nat.testBit_two_pow_sub_one]; simp
theorem rch_path {n : Nat} {l : List (Nat × Nat)} (hg : Good n l) {a b : Nat} (ha : a < n) : Rch (outS n l) (2 ^ n - 1) a b ↔ Path l a b := by
  constructor
  · intro h
    induction h with
    | refl => exact .refl
    | step _ h1 _ ih => exact .step ih ((outS_bit _ _ _ _).1 h1).2
  · intro h
    induction h with
    | refl => exact .refl
    | step h h1 ih => exact .step ih ((outS_bit _ _ _ _).2 ⟨h.lt hg ha, h1⟩) ((below_bit _ _).2 (hg _ h1).2)
theorem outS_lt' {n : Nat} {l : List (Nat × Nat)} (hn : n ≤ 64) (hg : Good n l) : ∀ x ∈ outS n l, x < 2 ^ 64 := outS_lt n l fun p hp => Nat.lt_of_lt_of_le (hg p hp).2 hn
/-- The points to which ways go. -/
def rs (n : Nat) (l : List (Nat × Nat)) (a : Nat) : Nat := reach (outS n l) (2 ^ n - 1) a
theorem rs_bit {n : Nat} {l : List (Nat × Nat)} (hn : n ≤ 64) (hg : Good n l) {a : Nat} (ha : a < n) (b : Nat) : (rs n l a).testBit b = true ↔ Path l a b := by
  rw [rs, reach_bit (outS_lt' hn hg) (by omega), rch_path hg ha]
theorem rs_lt {n : Nat} {l : List (Nat × Nat)} (hn : n ≤ 64) (hg : Good n l) {a : Nat} (ha : a < n) : rs n l a < 2 ^ 64 := reach_lt (outS_lt' hn hg) (by omega)
/-- The least point. -/
def low (s : Nat) : Nat := (pts s).getD 0 default
theorem low_spec {s i : Nat} (h : s.testBit i = true) (hi : i < 64) : pts s ≠ [] ∧ s.testBit (low s) = true ∧ low s ≤ i := by
  have hm : i ∈ pts s := (pts_mem s i).2 ⟨hi, h⟩
  have hne : pts s ≠ [] := List.ne_nil_of_mem hm
  refine ⟨hne, ?_⟩
  have hs : (pts s).Pairwise (· < ·) := List.Pairwise.filter _ List.pairwise_lt_range
  unfold low
  cases hp : pts s with
  | nil => exact absurd hp hne
  | cons x t =>
    rw [hp] at hm hs
    have hx : x ∈ pts s := by rw [hp]; simp
    refine ⟨((pts_mem s x).1 hx).2, ?_⟩
    rcases List.mem_cons.1 hm with rfl | hm
    · exact Nat.le_refl _
    · exact Nat.le_of_lt ((List.pairwise_cons.1 hs).1 i hm)
theorem low_eq {s t : Nat} (h : ∀ j, s.testBit j = true ↔ t.testBit j = true) : low s = low t := by
  have : s = t := bits_eq fun j => by
    have := h j
    cases h1 : s.testBit j <;> cases h2 : t.testBit j <;> simp [h1, h2] at this <;> rfl
  rw [this]
end Go.Proofs

namespace Go.Proofs
open Go.Aw
/-- Ways of a line, or several. -/
def Path1 (l : List (Nat × Nat)) (a b : Nat) : Prop := ∃ c, (a, c) ∈ l ∧ Path l c b
theorem Path1.path {l : List (Nat × Nat)} {a b : Nat} (h : Path1 l a b) : Path l a b := by
  obtain ⟨c, h1, h2⟩ := h
  exact (Path.one h1).trans h2
theorem Path1.trans {l : List (Nat × Nat)} {a b c : Nat} (h : Path1 l a b) (k : Path l b c) : Path1 l a c := by
  obtain ⟨d, h1, h2⟩ := h
  exact ⟨d, h1, h2.trans k⟩
theorem Path.cases1 {l : List (Nat × Nat)} {a b : Nat} (h : Path l a b) : a = b ∨ Path1 l a b := by
  induction h with
  | refl => exact .inl rfl
  | step _ h1 ih =>
    rcases ih with rfl | h
    · exact .inr ⟨_, h1, .refl⟩
    · exact .inr (h.trans (.one h1))
theorem Path.trans1 {l : List (Nat × Nat)} {a b c : Nat} (h : Path l a b) (k : Path1 l b c) : Path1 l a c := by
  rcases h.cases1 with rfl | h
  · exact k
  · exact h.trans k.path
theorem Path1.snoc {l : List (Nat × Nat)} {a b c : Nat} (h : Path l a b) (k : (b, c) ∈ l) : Path1 l a c := h.trans1 ⟨c, k, .refl⟩
theorem Path1.mono {l l' : List (Nat × Nat)} (hl : ∀ p ∈ l, p ∈ l') {a b : Nat} (h : Path1 l a b) : Path1 l' a b := by
  obtain ⟨c, h1, h2⟩ := h
  exact ⟨c, hl _ h1, h2.mono hl⟩
theorem Path1.last {l : List (Nat × Nat)} {a b : Nat} (h : Path1 l a b) : ∃ c, Path l a c ∧ (c, b) ∈ l := by
  obtain ⟨c, h1, h2⟩ := h
  cases h2 with
  | refl => exact ⟨a, .refl, h1⟩
  | step h2 h3 => exact ⟨_, (Path.one h1).trans h2, h3⟩
theorem path1_flip {l : List (Nat × Nat)} {a b : Nat} : Path1 (l.map flip) a b ↔ Path1 l b a := by
  have key : ∀ (l : List (Nat × Nat)) (a b : Nat), Path1 (l.map Go.Proofs.flip) a b → Path1 l b a := by
    intro l a b ⟨c, h1, h2⟩
    exact Path1.snoc h2.unflip (flip_mem.1 h1)
  refine ⟨key l a b, fun h => ?_⟩
  have hf : (l.map Go.Proofs.flip).map Go.Proofs.flip = l := by
    rw [List.map_map]
    conv => rhs; rw [← List.map_id l]
    rfl
  refine key (l.map Go.Proofs.flip) b a ?_
  rw [hf]; exact h
theorem Path1.lt {n : Nat} {l : List (Nat × Nat)} (hg : Good n l) {a b : Nat} (h : Path1 l a b) : a < n ∧ b < n := by
  obtain ⟨c, h1, h2⟩ := h
  exact ⟨(hg _ h1).1, h2.lt hg (hg _ h1).2⟩
def warI (k : Nat) (s : List Nat) (i : Nat) : List Nat := if (s.getD i default).testBit k then s.set i (s.getD i default ||| s.getD k default) else s
def warK (n : Nat) (s : List Nat) (k : Nat) : List Nat := (List.range n).foldl (warI k) s
def warS (n : Nat) (s : List Nat) (m : Nat) : List Nat := (List.range m).foldl (warK n) s
def war (n : Nat) (l : List (Nat × Nat)) : List Nat := warS n (outS n l) n
theorem warI_len (k : Nat) (s : List Nat) (i : Nat) : (warI k s i).length = s.length := by unfold warI; split <;> simp
theorem range_foldl {α : Type} (f : α → Nat → α) (a : α) (n : Nat) : (List.range (n + 1)).foldl f a = f ((List.range n).foldl f a) n := by rw [List.range_succ, List.foldl_append]; rfl
def wOr (s : List Nat) (k i : Nat) : Nat := if (s.getD i default).testBit k then s.getD i default ||| s.getD k default else s.getD i default
theorem warI_get (k : Nat) (s : List Nat) (i j : Nat) (hi : i < s.length) : (warI k s i).getD j default = if j = i then wOr s k i else s.getD j default := by
  unfold warI wOr
  split
  · rw [set_getD]
    by_cases h : i = j
    · subst h; simp [hi]
    · rw [if_neg (by simp [h]), if_neg (fun e => h e.symm)]
  · split
    · rename_i h; rw [h]
    · rfl
theorem warIs_get (k : Nat) (s : List Nat) (m : Nat) (hm : m ≤ s.length) : ((List.range m).foldl (warI k) s).length = s.length ∧ ∀ j, ((List.range m).foldl (warI k) s).getD j default = if j < m then wOr s k j else s.getD j default := by
  induction m with
  | zero => simp
  | succ m ih =>
    obtain ⟨h1, h2⟩ := ih (by omega)
    rw [range_foldl]
    refine ⟨by rw [warI_len, h1], fun j => ?_⟩
    rw [warI_get _ _ _ _ (by rw [h1]; omega)]
    have hk : ((List.range m).foldl (warI k) s).getD k default = s.getD k default := by
      rw [h2]
      split
      · unfold wOr; split <;> simp
      · rfl
    by_cases hj : j = m
    · subst hj
      rw [if_pos rfl, if_pos (Nat.lt_succ_self j)]
      have h3 := h2 j
      rw [if_neg (Nat.lt_irrefl j)] at h3
      unfold wOr
      rw [hk, h3]
    · rw [if_neg hj, h2]
      by_cases h3 : j < m
      · rw [if_pos h3, if_pos (by omega)]
      · rw [if_neg h3, if_neg (by omega)]
theorem warK_get (n : Nat) (s : List Nat) (k : Nat) (hs : s.length = n) : (warK n s k).length = n ∧ ∀ j, (warK n s k).getD j default = wOr s k j := by
  obtain ⟨h1, h2⟩ := warIs_get k s n (by omega)
  refine ⟨by rw [warK, h1, hs], fun j => ?_⟩
  rw [warK, h2]
  split
  · rfl
  · have : s.getD j default = 0 := by rw [List.getD_eq_getElem?_getD, List.getElem?_eq_none (by omega)]; rfl
    unfold wOr
    rw [this]
    simp
/-- Warshall's relation. -/
def WR (l : List (Nat × Nat)) : Nat → Nat → Nat → Prop
  | 0, i, j => (i, j) ∈ l
  | k + 1, i, j => WR l k i j ∨ (WR l k i k ∧ WR l k k j)
theorem WR.sound {l : List (Nat × Nat)} {k i j : Nat} (h : WR l k i j) : Path1 l i j := by
  induction k generalizing i j with
  | zero => exact ⟨j, h, .refl⟩
  | succ k ih =>
    rcases h with h | ⟨h1, h2⟩
    · exact ih h
    · exact (ih h1).trans (ih h2).path
theorem WR.tr {l : List (Nat × Nat)} {k : Nat} : ∀ {i m j : Nat}, m < k → WR l k i m → WR l k m j → WR l k i j := by
  induction k with
  | zero => intro i m j h; omega
  | succ k ih =>
    intro i m j hm h1 h2
    by_cases hk : m < k
    · rcases h1 with h1 | ⟨h1, h1'⟩ <;> rcases h2 with h2 | ⟨h2, h2'⟩
      · exact .inl (ih hk h1 h2)
      · exact .inr ⟨ih hk h1 h2, h2'⟩
      · exact .inr ⟨h1, ih hk h1' h2⟩
      · exact .inr ⟨h1, h2'⟩
    · obtain rfl : m = k := by omega
      have a : WR l m i m := h1.elim id (fun h => h.1)
      have b : WR l m m j := h2.elim id (fun h => h.2)
      exact .inr ⟨a, b⟩
theorem WR.base {l : List (Nat × Nat)} {i j : Nat} (h : (i, j) ∈ l) : ∀ k, WR l k i j
  | 0 => h
  | k + 1 => .inl (WR.base h k)
theorem WR.all {n : Nat} {l : List (Nat × Nat)} (hg : Good n l) {i j : Nat} : WR l n i j ↔ Path1 l i j := by
  refine ⟨WR.sound, ?_⟩
  rintro ⟨c, h1, h2⟩
  have : WR l n i j ∧ j < n := by
    induction h2 with
    | refl => exact ⟨.base h1 n, (hg _ h1).2⟩
    | step _ h3 ih => exact ⟨.tr ih.2 ih.1 (.base h3 n), (hg _ h3).2⟩
  exact this.1
theorem warS_get (n : Nat) (l : List (Nat × Nat)) (m : Nat) (hg : Good n l) : (warS n (outS n l) m).length = n ∧ ∀ i j, ((warS n (outS n l) m).getD i default).testBit j = true ↔ WR l m i j := by
  induction m with
  | zero =>
    refine ⟨by simpa [warS] using outS_len n l, fun i j => ?_⟩
    show ((outS n l).getD i default).testBit j = true ↔ _
    rw [outS_bit]
    exact ⟨fun h => h.2, fun h => ⟨(hg _ h).1, h⟩⟩
  | succ m ih =>
    obtain ⟨h1, h2⟩ := ih
    have : warS n (outS n l) (m + 1) = warK n (warS n (outS n l) m) m := range_foldl _ _ _
    rw [this]
    obtain ⟨h3, h4⟩ := warK_get n _ m h1
    refine ⟨h3, fun i j => ?_⟩
    rw [h4]
    show _ ↔ WR l m i j ∨ (WR l m i m ∧ WR l m m j)
    unfold wOr
    rw [← h2, ← h2, ← h2]
    split
    · rename_i h; rw [Nat.testBit_or, Bool.or_eq_true]
      exact ⟨fun h' => h'.elim .inl (fun h2 => .inr ⟨h, h2⟩), fun h' => h'.elim .inl (fun h2 => .inr h2.2)⟩
    · rename_i h
      exact ⟨.inl, fun h' => h'.elim id (fun h2 => absurd h2.1 h)⟩
theorem war_len {n : Nat} {l : List (Nat × Nat)} (hg : Good n l) : (war n l).length = n := (warS_get n l n hg).1
theorem war_bit {n : Nat} {l : List (Nat × Nat)} (hg : Good n l) (i j : Nat) : ((war n l).getD i default).testBit j = true ↔ Path1 l i j := by
  rw [war, (warS_get n l n hg).2, WR.all hg]
end Go.Proofs

namespace Go.Proofs
open Go.Aw
/-- The least point there and back. -/
def part (n : Nat) (l : List (Nat × Nat)) (i : Nat) : Nat := low (rs n l i &&& rs n (l.map flip) i)
def strongP (n : Nat) (l : List (Nat × Nat)) : List Nat := (List.range n).map (part n l)
def Mut (l : List (Nat × Nat)) (a b : Nat) : Prop := Path l a b ∧ Path l b a
theorem Mut.refl (l : List (Nat × Nat)) (a : Nat) : Mut l a a := ⟨.refl, .refl⟩
theorem Mut.symm {l : List (Nat × Nat)} {a b : Nat} (h : Mut l a b) : Mut l b a := ⟨h.2, h.1⟩
theorem Mut.trans {l : List (Nat × Nat)} {a b c : Nat} (h : Mut l a b) (k : Mut l b c) : Mut l a c := ⟨h.1.trans k.1, k.2.trans h.2⟩
section
variable {n : Nat} {l : List (Nat × Nat)} (hn : n ≤ 64) (hg : Good n l)
include hn hg
theorem both_bit {i : Nat} (hi : i < n) (j : Nat) : (rs n l i &&& rs n (l.map flip) i).testBit j = true ↔ Mut l i j := by
  rw [Nat.testBit_and, Bool.and_eq_true, rs_bit hn hg hi, rs_bit hn hg.flip hi, path_flip]
  exact Iff.rfl
theorem part_spec {i j : Nat} (hi : i < n) (h : Mut l i j) : Mut l i (part n l i) ∧ part n l i ≤ j := by
  have hj : j < n := h.1.lt hg hi
  obtain ⟨_, h1, h2⟩ := low_spec ((both_bit hn hg hi j).2 h) (by omega)
  exact ⟨(both_bit hn hg hi _).1 h1, h2⟩
theorem part_mut {i : Nat} (hi : i < n) : Mut l i (part n l i) ∧ part n l i ≤ i := part_spec hn hg hi (.refl l i)
theorem part_pts {i : Nat} (hi : i < n) : pts (rs n l i &&& rs n (l.map flip) i) ≠ [] := (low_spec ((both_bit hn hg hi i).2 (.refl l i)) (by omega)).1
theorem part_iff {a b : Nat} (ha : a < n) (hb : b < n) : part n l a = part n l b ↔ Mut l a b := by
  constructor
  · intro h
    have h1 := (part_mut hn hg ha).1
    have h2 := (part_mut hn hg hb).1
    rw [h] at h1
    exact h1.trans h2.symm
  · intro h
    refine low_eq fun j => ?_
    rw [both_bit hn hg ha, both_bit hn hg hb]
    exact ⟨fun k => h.symm.trans k, fun k => h.trans k⟩
theorem both_lt {i : Nat} (hi : i < n) : rs n l i < 2 ^ 64 ∧ rs n (l.map flip) i < 2 ^ 64 ∧ (rs n l i &&& rs n (l.map flip) i) < 2 ^ 64 :=
  ⟨rs_lt hn hg hi, rs_lt hn hg.flip hi, Nat.lt_of_le_of_lt Nat.and_le_left (rs_lt hn hg hi)⟩
end
theorem Path.congr {l l' : List (Nat × Nat)} (h : ∀ p, p ∈ l ↔ p ∈ l') {a b : Nat} : Path l a b ↔ Path l' a b := ⟨Path.mono fun p => (h p).1, Path.mono fun p => (h p).2⟩
theorem part_congr {n : Nat} {l l' : List (Nat × Nat)} (hn : n ≤ 64) (hg : Good n l) (hg' : Good n l') {i : Nat} (hi : i < n) (h : ∀ j, Mut l i j ↔ Mut l' i j) : part n l i = part n l' i :=
  low_eq fun j => by rw [both_bit hn hg hi, both_bit hn hg' hi]; exact h j
/-- Lines from the last one on, each the other way. -/
def backL (l : List (Nat × Nat)) : List (Nat × Nat) := l.reverse.map flip
theorem back_mem {l : List (Nat × Nat)} {p : Nat × Nat} : p ∈ backL l ↔ p ∈ l.map flip := by simp [backL]
theorem back_good {n : Nat} {l : List (Nat × Nat)} (h : Good n l) : Good n (backL l) := fun p hp => h.flip p (back_mem.1 hp)
theorem strong_turn {n : Nat} {l : List (Nat × Nat)} (hn : n ≤ 64) (hg : Good n l) : strongP n (backL l) = strongP n l := by
  refine List.map_congr_left fun i hi => part_congr hn (back_good hg) hg (by simpa using hi) fun j => ?_
  unfold Mut
  rw [Path.congr fun p => back_mem, Path.congr fun p => back_mem, path_flip, path_flip]
  exact ⟨fun h => ⟨h.2, h.1⟩, fun h => ⟨h.2, h.1⟩⟩
theorem strong_more {n : Nat} {l l' : List (Nat × Nat)} (hn : n ≤ 64) (hg : Good n l) (hg' : Good n l') (h : ∀ p ∈ l, p ∈ l') {a b : Nat} (ha : a < n) (hb : b < n) (e : part n l a = part n l b) : part n l' a = part n l' b := by
  rw [part_iff hn hg ha hb] at e
  rw [part_iff hn hg' ha hb]
  exact ⟨e.1.mono h, e.2.mono h⟩
end Go.Proofs

namespace Go.Proofs
open Go.Aw
/-- All that some points have. -/
def orL (next : List Nat) (L : List Nat) : Nat := L.foldl (fun u b => u ||| next.getD b default) 0
theorem orL_snoc (next L : List Nat) (b : Nat) : orL next (L ++ [b]) = orL next L ||| next.getD b default := by simp [orL]
theorem orL_bit (next L : List Nat) (j : Nat) : (orL next L).testBit j = true ↔ ∃ b ∈ L, (next.getD b default).testBit j = true := by
  unfold orL
  have : ∀ u : Nat, (L.foldl (fun u b => u ||| next.getD b default) u).testBit j = true ↔ u.testBit j = true ∨ ∃ b ∈ L, (next.getD b default).testBit j = true := by
    induction L with
    | nil => intro u; simp
    | cons b L ih =>
      intro u
      rw [List.foldl_cons, ih, Nat.testBit_or, Bool.or_eq_true]
      constructor
      · rintro ((h | h) | ⟨c, h1, h2⟩)
        · exact .inl h
        · exact .inr ⟨b, by simp, h⟩
        · exact .inr ⟨c, by simp [h1], h2⟩
      · rintro (h | ⟨c, h1, h2⟩)
        · exact .inl (.inl h)
        · rcases List.mem_cons.1 h1 with rfl | h1
          · exact .inl (.inr h2)
          · exact .inr ⟨c, h1, h2⟩
  rw [this]
  simp
theorem orL_lt {next : List Nat} (hn : ∀ x ∈ next, x < 2 ^ 64) (L : List Nat) : orL next L < 2 ^ 64 := by
  apply Nat.lt_pow_two_of_testBit
  intro i hi
  rw [← Bool.not_eq_true, orL_bit]
  rintro ⟨b, _, h⟩
  have : next.getD b default < 2 ^ 64 := by
    rw [List.getD_eq_getElem?_getD]
    cases hx : next[b]? with
    | none => decide
    | some y => exact hn y (List.mem_of_getElem? hx)
  rw [Nat.testBit_lt_two_pow (Nat.lt_of_lt_of_le this (Nat.pow_le_pow_right (by omega) hi))] at h
  cases h
/-- Those that can be next. -/
def freeS (next : List Nat) (left : Nat) : Nat := dif left (orL next (pts left))
def topoGo (next : List Nat) : Nat → Nat → List Nat → Option (List Nat)
  | 0, _, acc => some acc
  | m + 1, left, acc => if left = 0 then some acc else if pts (freeS next left) = [] then none else topoGo next m (dif left (2 ^ low (freeS next left))) (acc ++ [low (freeS next left)])
/-- The order of the points. -/
def topoO (n : Nat) (l : List (Nat × Nat)) : Option (List Nat) := topoGo (outS n l) n (2 ^ n - 1) []
/-- What holds of an order that is begun. -/
structure TI (n : Nat) (l : List (Nat × Nat)) (left : Nat) (acc : List Nat) : Prop where
  lt : ∀ i, left.testBit i = true → i < n
  all : ∀ i, i < n → (left.testBit i = true ∨ i ∈ acc)
  out : ∀ i ∈ acc, i < n ∧ left.testBit i = false
  nodup : acc.Nodup
  fwd : ∀ (a b : Nat), (a, b) ∈ l → ∀ (s t : List Nat), acc = s ++ b :: t → a ∈ s
theorem low_mem {s : Nat} (h : pts s ≠ []) : low s ∈ pts s := by
  unfold low
  cases hp : pts s with
  | nil => exact absurd hp h
  | cons x t => simp
theorem low_le {s i : Nat} (h : i ∈ pts s) : low s ≤ i := (low_spec ((pts_mem s i).1 h).2 ((pts_mem s i).1 h).1).2.2
theorem free_bit {n : Nat} {l : List (Nat × Nat)} {left : Nat} (hn : n ≤ 64) (hl : ∀ i, left.testBit i = true → i < n) (j : Nat) : (freeS (outS n l) left).testBit j = true ↔ left.testBit j = true ∧ ∀ a, left.testBit a = true → (a, j) ∉ l := by
  unfold freeS
  rw [dif_bit, Bool.and_eq_true, Bool.not_eq_true', ← Bool.not_eq_true, orL_bit]
  refine and_congr_right fun hj => ?_
  constructor
  · intro h a ha hm
    exact h ⟨a, (pts_mem _ _).2 ⟨by have := hl a ha; omega, ha⟩, (outS_bit _ _ _ _).2 ⟨hl a ha, hm⟩⟩
  · rintro h ⟨a, ha, hm⟩
    exact h a ((pts_mem _ _).1 ha).2 ((outS_bit _ _ _ _).1 hm).2
theorem TI.next {n : Nat} {l : List (Nat × Nat)} {left : Nat} {acc : List Nat} (hn : n ≤ 64) (hg : Good n l) (h : TI n l left acc) {j : Nat} (hj : (freeS (outS n l) left).testBit j = true) : TI n l (dif left (2 ^ j)) (acc ++ [j]) := by
  have hf := (free_bit hn h.lt j).1 hj
  have hb : ∀ i, (dif left (2 ^ j)).testBit i = true ↔ left.testBit i = true ∧ ¬ i = j := fun i => by
    rw [dif_bit, Bool.and_eq_true, Bool.not_eq_true', ← Bool.not_eq_true, two_pow_bit]
    exact and_congr_right fun _ => ⟨fun h e => h e.symm, fun h e => h e.symm⟩
  refine ⟨fun i hi => h.lt i ((hb i).1 hi).1, fun i hi => ?_, fun i hi => ?_, ?_, ?_⟩
  · rcases h.all i hi with h1 | h1
    · by_cases e : i = j
      · exact .inr (by simp [e])
      · exact .inl ((hb i).2 ⟨h1, e⟩)
    · exact .inr (by simp [h1])
  · rw [← Bool.not_eq_true, hb]
    rcases List.mem_append.1 hi with h1 | h1
    · obtain ⟨h2, h3⟩ := h.out i h1
      exact ⟨h2, fun h' => by rw [h3] at h'; cases h'.1⟩
    · obtain rfl := List.mem_singleton.1 h1
      exact ⟨h.lt i hf.1, fun h' => h'.2 rfl⟩
  · rw [List.nodup_append]
    refine ⟨h.nodup, by simp, fun a ha b hb e => ?_⟩
    obtain rfl := List.mem_singleton.1 hb
    subst e
    have := (h.out a ha).2
    rw [hf.1] at this; cases this
  · intro a b hab s t e
    rcases List.eq_nil_or_concat t with rfl | ⟨t', x, rfl⟩
    · have e' := congrArg List.reverse e
      simp at e'
      obtain ⟨rfl, rfl⟩ := e'
      rcases h.all a (hg _ hab).1 with h1 | h1
      · exact absurd hab (hf.2 a h1)
      · exact h1
    · have e' : acc ++ [j] = (s ++ b :: t') ++ [x] := by rw [e]; simp
      obtain ⟨e1, _⟩ := List.append_inj' e' rfl
      exact h.fwd a b hab s t' e1
theorem TI.start (n : Nat) (l : List (Nat × Nat)) : TI n l (2 ^ n - 1) [] :=
  ⟨fun i hi => (below_bit n i).1 hi, fun i hi => .inl ((below_bit n i).2 hi), fun i hi => by simp at hi, List.nodup_nil, fun a b _ s t e => by simp at e⟩
/-- How many bits are left. -/
theorem pts_nil {s : Nat} {n : Nat} (hn : n ≤ 64) (hl : ∀ i, s.testBit i = true → i < n) : pts s = [] ↔ s = 0 := by
  constructor
  · intro h
    apply Nat.eq_of_testBit_eq
    intro i
    rw [Nat.zero_testBit, ← Bool.not_eq_true]
    intro hi
    have : i ∈ pts s := (pts_mem s i).2 ⟨by have := hl i hi; omega, hi⟩
    rw [h] at this; cases this
  · rintro rfl
    unfold pts
    rw [List.filter_eq_nil_iff]
    intro a _; simp
theorem pig {α : Type} [BEq α] [LawfulBEq α] : ∀ {L M : List α}, L.Nodup → (∀ x ∈ L, x ∈ M) → L.length ≤ M.length := by
  intro L
  induction L with
  | nil => intro M _ _; simp
  | cons x L ih =>
    intro M hn hs
    obtain ⟨h1, h2⟩ := List.nodup_cons.1 hn
    have hx := hs x (by simp)
    have := ih (M := M.erase x) h2 (fun y hy => (List.mem_erase_of_ne (fun e : y = x => h1 (e ▸ hy))).2 (hs y (by simp [hy])))
    rw [List.length_erase_of_mem hx] at this
    have := List.length_pos_of_mem hx
    simp only [List.length_cons]; omega
/-- In a set of points each of which has one ahead in it there is a ring. -/
theorem ring_of_pred {l : List (Nat × Nat)} {S : Nat → Prop} {n : Nat} (hS : ∀ i, S i → i < n) (hp : ∀ i, S i → ∃ a, S a ∧ (a, i) ∈ l) {i : Nat} (hi : S i) : ∃ j, S j ∧ Path1 l j j := by
  refine Classical.byContradiction fun hno => ?_
  -- a list of points, each ahead of the next, without a point twice, however long
  have key : ∀ m : Nat, ∃ L : List Nat, L.length = m + 1 ∧ L.Nodup ∧ (∀ x ∈ L, S x) ∧ ∀ x t, L = x :: t → ∀ y ∈ t, Path1 l x y := by
    intro m
    induction m with
    | zero => exact ⟨[i], rfl, by simp, by simpa using hi, fun x t e y hy => by simp at e; rw [e.2] at hy; cases hy⟩
    | succ m ih =>
      obtain ⟨L, h1, h2, h3, h4⟩ := ih
      cases L with
      | nil => cases h1
      | cons x t =>
        obtain ⟨a, ha, hax⟩ := hp x (h3 x (by simp))
        have hall : ∀ y ∈ x :: t, Path1 l a y := fun y hy => by
          rcases List.mem_cons.1 hy with rfl | hy
          · exact ⟨_, hax, .refl⟩
          · exact ⟨_, hax, (h4 x t rfl y hy).path⟩
        refine ⟨a :: x :: t, by simpa using h1, List.nodup_cons.2 ⟨fun h => hno ⟨a, ha, hall a h⟩, h2⟩, fun y hy => ?_, fun x' t' e y hy => ?_⟩
        · rcases List.mem_cons.1 hy with rfl | hy
          · exact ha
          · exact h3 y hy
        · cases e; exact hall y hy
  obtain ⟨L, h1, h2, h3, _⟩ := key n
  have hsub : L ⊆ List.range n := fun x hx => by simpa using hS x (h3 x hx)
  have := pig h2 hsub
  simp at this; omega
theorem topoGo_spec {n : Nat} {l : List (Nat × Nat)} (hn : n ≤ 64) (hg : Good n l) : ∀ (m left : Nat) (acc : List Nat), acc.length + m = n → TI n l left acc →
    (∀ o, topoGo (outS n l) m left acc = some o → TI n l 0 o ∧ acc <+: o) ∧ (topoGo (outS n l) m left acc = none → ∃ i, i < n ∧ Path1 l i i) := by
  have z : ∀ left acc, acc.length = n → TI n l left acc → left = 0 := by
    intro left acc hl h
    apply Nat.eq_of_testBit_eq
    intro i
    rw [Nat.zero_testBit, ← Bool.not_eq_true]
    intro hi
    have hni : i ∉ acc := fun h' => by have := (h.out i h').2; rw [hi] at this; cases this
    have hsub : i :: acc ⊆ List.range n := fun x hx => by
      rcases List.mem_cons.1 hx with rfl | hx
      · simpa using h.lt x hi
      · simpa using (h.out x hx).1
    have := pig (List.nodup_cons.2 ⟨hni, h.nodup⟩) hsub
    simp at this; omega
  intro m
  induction m with
  | zero =>
    intro left acc hl h
    obtain rfl := z left acc (by omega) h
    exact ⟨fun o ho => (by cases ho; exact ⟨h, List.prefix_rfl⟩), fun h' => (by cases h')⟩
  | succ m ih =>
    intro left acc hl h
    unfold topoGo
    by_cases h0 : left = 0
    · subst h0
      rw [if_pos rfl]
      exact ⟨fun o ho => (by cases ho; exact ⟨h, List.prefix_rfl⟩), fun h' => (by cases h')⟩
    · rw [if_neg h0]
      by_cases hf : pts (freeS (outS n l) left) = []
      · rw [if_pos hf]
        refine ⟨fun o ho => (by cases ho), fun _ => ?_⟩
        obtain ⟨i, hi⟩ : ∃ i, left.testBit i = true := Classical.byContradiction fun hno => h0 (Nat.eq_of_testBit_eq fun i => by rw [Nat.zero_testBit, ← Bool.not_eq_true]; exact fun hi => hno ⟨i, hi⟩)
        obtain ⟨j, h1, h2⟩ := ring_of_pred (l := l) (S := fun i => left.testBit i = true) h.lt (fun i hi => Classical.byContradiction fun hno => by
          have : i ∈ pts (freeS (outS n l) left) := (pts_mem _ _).2 ⟨by have := h.lt i hi; omega, (free_bit hn h.lt i).2 ⟨hi, fun a ha hm => hno ⟨a, ha, hm⟩⟩⟩
          rw [hf] at this; cases this) hi
        exact ⟨j, h.lt j h1, h2⟩
      · rw [if_neg hf]
        obtain ⟨h1, h2⟩ := ih _ (acc ++ [low (freeS (outS n l) left)]) (by simp; omega) (h.next hn hg ((pts_mem _ _).1 (low_mem hf)).2)
        exact ⟨fun o ho => ⟨(h1 o ho).1, (List.prefix_append _ _).trans (h1 o ho).2⟩, h2⟩
theorem topo_some {n : Nat} {l : List (Nat × Nat)} (hn : n ≤ 64) (hg : Good n l) {o : List Nat} (h : topoO n l = some o) : TI n l 0 o := ((topoGo_spec hn hg n _ [] (by simp) (.start n l)).1 o h).1
theorem topo_none {n : Nat} {l : List (Nat × Nat)} (hn : n ≤ 64) (hg : Good n l) (h : topoO n l = none) : ∃ i, i < n ∧ Path1 l i i := (topoGo_spec hn hg n _ [] (by simp) (.start n l)).2 h
section
variable {n : Nat} {l : List (Nat × Nat)} {o : List Nat}
theorem TI.mem (h : TI n l 0 o) {i : Nat} : i ∈ o ↔ i < n := ⟨fun hi => (h.out i hi).1, fun hi => (h.all i hi).resolve_left (by simp)⟩
theorem TI.len (h : TI n l 0 o) : o.length = n := by
  have h1 := pig h.nodup (fun x hx => by simpa using h.mem.1 hx : ∀ x ∈ o, x ∈ List.range n)
  have h2 := pig List.nodup_range (fun x hx => h.mem.2 (by simpa using hx) : ∀ x ∈ List.range n, x ∈ o)
  simp at h1 h2; omega
/-- Each line goes on in the order. -/
theorem TI.idx (h : TI n l 0 o) (hg : Good n l) {a b : Nat} (hab : (a, b) ∈ l) : o.idxOf a < o.idxOf b := by
  have hb : b ∈ o := h.mem.2 (hg _ hab).2
  obtain ⟨s, t, e, hbs⟩ := List.append_of_mem hb |> fun ⟨s, t, e⟩ => (⟨s, t, e, by
    have := h.nodup; rw [e, List.nodup_append] at this
    exact fun hs => this.2.2 b hs b (by simp) rfl⟩ : ∃ s t, o = s ++ b :: t ∧ b ∉ s)
  have ha := h.fwd a b hab s t e
  rw [e, List.idxOf_append, List.idxOf_append, if_pos ha, if_neg hbs]
  have := List.idxOf_lt_length_of_mem ha
  omega
theorem TI.path (h : TI n l 0 o) (hg : Good n l) {a b : Nat} (hab : Path1 l a b) : o.idxOf a < o.idxOf b := by
  obtain ⟨c, h1, h2⟩ := hab
  have := h.idx hg h1
  have : ∀ x, Path l c x → o.idxOf c ≤ o.idxOf x := fun x hx => by
    induction hx with
    | refl => exact Nat.le_refl _
    | step _ h3 ih => have := h.idx hg h3; omega
  have := this b h2; omega
end
/-- There is no order just if some point comes back to itself. -/
theorem topo_iff {n : Nat} {l : List (Nat × Nat)} (hn : n ≤ 64) (hg : Good n l) : topoO n l = none ↔ ∃ i, Path1 l i i := by
  refine ⟨fun h => ?_, fun ⟨i, hi⟩ => ?_⟩
  · obtain ⟨i, _, h⟩ := topo_none hn hg h; exact ⟨i, h⟩
  · cases h : topoO n l with
    | none => rfl
    | some o => exact absurd ((topo_some hn hg h).path hg hi) (Nat.lt_irrefl _)
end Go.Proofs

namespace Go.Proofs
open Go.Aw
/-- The fewest lines. -/
def fewB (n : Nat) (l : List (Nat × Nat)) (i : Nat) : Nat := dif ((war n l).getD i default) (orL (war n l) (pts ((war n l).getD i default)))
def few (n : Nat) (l : List (Nat × Nat)) : List (Nat × Nat) := (List.range n).flatMap fun i => (pts (fewB n l i)).map fun j => (i, j)
section
variable {n : Nat} {l : List (Nat × Nat)} (hn : n ≤ 64) (hg : Good n l)
include hn hg
theorem war_pts (i j : Nat) : j ∈ pts ((war n l).getD i default) ↔ Path1 l i j := by
  rw [pts_mem, war_bit hg]
  exact ⟨fun h => h.2, fun h => ⟨by have := (h.lt hg).2; omega, h⟩⟩
theorem war_lt : ∀ x ∈ war n l, x < 2 ^ 64 := by
  intro x hx
  obtain ⟨i, hi, rfl⟩ := List.mem_iff_getElem.1 hx
  apply Nat.lt_pow_two_of_testBit
  intro j hj
  rw [← Bool.not_eq_true]
  intro h
  have h2 : ((war n l).getD i default).testBit j = true := by rw [List.getD_eq_getElem?_getD, List.getElem?_eq_getElem hi]; exact h
  rw [war_bit hg] at h2
  have := (h2.lt hg).2; omega
theorem few_mem (i j : Nat) : (i, j) ∈ few n l ↔ Path1 l i j ∧ ∀ k, Path1 l i k → ¬ Path1 l k j := by
  have hb : j ∈ pts (fewB n l i) ↔ Path1 l i j ∧ ∀ k, Path1 l i k → ¬ Path1 l k j := by
    rw [pts_mem, fewB, dif_bit, Bool.and_eq_true, Bool.not_eq_true', ← Bool.not_eq_true, orL_bit, war_bit hg]
    constructor
    · rintro ⟨_, h1, h2⟩
      exact ⟨h1, fun k h3 h4 => h2 ⟨k, (war_pts hn hg i k).2 h3, (war_bit hg k j).2 h4⟩⟩
    · rintro ⟨h1, h2⟩
      exact ⟨by have := (h1.lt hg).2; omega, h1, fun ⟨k, h3, h4⟩ => h2 k ((war_pts hn hg i k).1 h3) ((war_bit hg k j).1 h4)⟩
  rw [few, List.mem_flatMap, ← hb]
  constructor
  · rintro ⟨x, _, h⟩
    obtain ⟨y, hy, e⟩ := List.mem_map.1 h
    cases e
    exact hy
  · intro h
    exact ⟨i, by simpa using ((hb.1 h).1.lt hg).1, List.mem_map.2 ⟨j, h, rfl⟩⟩
theorem few_sub {p : Nat × Nat} (h : p ∈ few n l) : p ∈ l := by
  obtain ⟨i, j⟩ := p
  obtain ⟨⟨c, h1, h2⟩, h3⟩ := (few_mem hn hg i j).1 h
  rcases h2.cases1 with rfl | h2
  · exact h1
  · exact absurd h2 (h3 c ⟨c, h1, .refl⟩)
theorem few_good : Good n (few n l) := fun p hp => hg p (few_sub hn hg hp)
/-- The fewest lines have the same ways. -/
theorem few_path {o : List Nat} (ho : TI n l 0 o) {i j : Nat} : Path1 (few n l) i j ↔ Path1 l i j := by
  refine ⟨fun h => h.mono fun p hp => few_sub hn hg hp, ?_⟩
  have key : ∀ m i j, Path1 l i j → o.idxOf j - o.idxOf i = m → Path1 (few n l) i j := by
    intro m
    induction m using Nat.strongRecOn with
    | _ m ih =>
      intro i j h e
      have h0 := ho.path hg h
      by_cases hk : ∃ k, Path1 l i k ∧ Path1 l k j
      · obtain ⟨k, h1, h2⟩ := hk
        have h3 := ho.path hg h1
        have h4 := ho.path hg h2
        exact (ih _ (by omega) i k h1 rfl).trans (ih _ (by omega) k j h2 rfl).path
      · exact ⟨j, (few_mem hn hg i j).2 ⟨h, fun k h1 h2 => hk ⟨k, h1, h2⟩⟩, .refl⟩
  exact fun h => key _ i j h rfl
omit hn hg in
theorem few_nodup : (few n l).Nodup := by
  unfold few
  rw [List.Nodup, List.pairwise_flatMap]
  refine ⟨fun i _ => ?_, ?_⟩
  · rw [List.pairwise_map]
    exact (List.Pairwise.filter _ List.nodup_range : (pts (fewB n l i)).Nodup).imp fun h e => h (by simpa using e)
  · refine List.nodup_range.imp fun h p hp q hq e => ?_
    obtain ⟨x, _, rfl⟩ := List.mem_map.1 hp
    obtain ⟨y, _, e'⟩ := List.mem_map.1 hq
    rw [← e'] at e
    cases e
    exact h rfl
theorem few_len : (few n l).length ≤ l.length := pig few_nodup fun p hp => few_sub hn hg hp
/-- Without any one of them they are not the same. -/
theorem few_need {k : Nat} (hk : k < (few n l).length) : ∃ i j, Path1 l i j ∧ ¬ Path1 ((few n l).eraseIdx k) i j := by
  refine ⟨((few n l)[k]).1, ((few n l)[k]).2, ?_⟩
  have hm : ((few n l)[k].1, (few n l)[k].2) ∈ few n l := List.getElem_mem hk
  obtain ⟨h1, h2⟩ := (few_mem hn hg _ _).1 hm
  refine ⟨h1, fun ⟨c, h3, h4⟩ => ?_⟩
  have hsub : ∀ p ∈ (few n l).eraseIdx k, p ∈ few n l := fun p hp => List.mem_of_mem_eraseIdx hp
  have hl : ∀ p ∈ (few n l).eraseIdx k, p ∈ l := fun p hp => few_sub hn hg (hsub p hp)
  rcases h4.cases1 with rfl | h4
  · rw [List.mem_eraseIdx_iff_getElem] at h3
    obtain ⟨i, hi, hne, e⟩ := h3
    have := (List.getElem_inj (h₀ := hi) (h₁ := hk) (few_nodup (n := n) (l := l))).1 e
    exact hne this
  · exact h2 c ⟨c, hl _ h3, .refl⟩ (h4.mono hl)
end
theorem few_flip {n : Nat} {l l' : List (Nat × Nat)} (hn : n ≤ 64) (hg : Good n l) (hg' : Good n l') (h : ∀ a b, (a, b) ∈ l' ↔ (b, a) ∈ l) (i j : Nat) : (i, j) ∈ few n l' ↔ (j, i) ∈ few n l := by
  have hp : ∀ a b, Path1 l' a b ↔ Path1 l b a := fun a b => by
    rw [← path1_flip (l := l)]
    have hm : ∀ p, p ∈ l' ↔ p ∈ l.map flip := fun ⟨x, y⟩ => by rw [h, flip_mem]
    exact ⟨fun h => h.mono fun p => (hm p).1, fun h => h.mono fun p => (hm p).2⟩
  rw [few_mem hn hg', few_mem hn hg, hp]
  refine and_congr_right fun _ => ?_
  constructor
  · intro h k h1 h2; exact h k ((hp _ _).2 h2) ((hp _ _).2 h1)
  · intro h k h1 h2; exact h k ((hp _ _).1 h2) ((hp _ _).1 h1)
theorem few_flip_len {n : Nat} {l l' : List (Nat × Nat)} (hn : n ≤ 64) (hg : Good n l) (hg' : Good n l') (h : ∀ a b, (a, b) ∈ l' ↔ (b, a) ∈ l) : (few n l').length = (few n l).length := by
  have key : ∀ {l l' : List (Nat × Nat)} (hg : Good n l) (hg' : Good n l') (h : ∀ a b, (a, b) ∈ l' ↔ (b, a) ∈ l), (few n l').length ≤ (few n l).length := by
    intro l l' hg hg' h
    have : ((few n l').map flip).Nodup := by
      rw [List.Nodup, List.pairwise_map]
      exact (few_nodup (n := n) (l := l')).imp fun {a b} h e => h (by
        obtain ⟨a1, a2⟩ := a; obtain ⟨b1, b2⟩ := b
        simp only [flip, Prod.mk.injEq] at e
        rw [e.1, e.2])
    have := pig (M := few n l) this (fun ⟨x, y⟩ hp => by
      rw [flip_mem] at hp
      exact (few_flip hn hg hg' h y x).1 hp)
    simpa using this
  exact Nat.le_antisymm (key hg hg' h) (key hg' hg fun a b => (h b a).symm)
end Go.Proofs

namespace Go.Proofs
open Go.Aw
/-- Ways that, behind where they begin, keep out of S. -/
inductive Avo (l : List (Nat × Nat)) (S : Nat → Prop) (a : Nat) : Nat → Prop
  | refl : Avo l S a a
  | step {b c : Nat} (h : Avo l S a b) (h1 : (b, c) ∈ l) (h2 : ¬ S c) : Avo l S a c
theorem Avo.path {l : List (Nat × Nat)} {S : Nat → Prop} {a b : Nat} (h : Avo l S a b) : Path l a b := by
  induction h with
  | refl => exact .refl
  | step _ h1 _ ih => exact .step ih h1
theorem Avo.mono {l : List (Nat × Nat)} {S T : Nat → Prop} (hs : ∀ x, T x → S x) {a b : Nat} (h : Avo l S a b) : Avo l T a b := by
  induction h with
  | refl => exact .refl
  | step _ h1 h2 ih => exact .step ih h1 (fun h => h2 (hs _ h))
theorem Avo.trans {l : List (Nat × Nat)} {S : Nat → Prop} {a b c : Nat} (h : Avo l S a b) (k : Avo l S b c) : Avo l S a c := by
  induction k with
  | refl => exact h
  | step _ h1 h2 ih => exact .step ih h1 h2
theorem Avo.last {l : List (Nat × Nat)} {S : Nat → Prop} {a b : Nat} (h : Avo l S a b) : a = b ∨ ¬ S b := by
  cases h with
  | refl => exact .inl rfl
  | step _ _ h2 => exact .inr h2
/-- A way has a last point in S, or keeps out of S. -/
theorem Path.lastIn {l : List (Nat × Nat)} (S : Nat → Prop) {a b : Nat} (h : Path l a b) : Avo l S a b ∨ ∃ x, S x ∧ Path l a x ∧ Avo l S x b := by
  induction h with
  | refl => exact .inl .refl
  | step h1 h2 ih =>
    rename_i b c
    by_cases hc : S c
    · exact .inr ⟨c, hc, .step h1 h2, .refl⟩
    · rcases ih with ih | ⟨x, hx, h3, h4⟩
      · exact .inl (.step ih h2 hc)
      · exact .inr ⟨x, hx, h3, .step h4 h2 hc⟩
theorem avo_rch {n k : Nat} {l : List (Nat × Nat)} (hg : Good n l) {a b : Nat} (ha : a < n) : Rch (outS n l) (dif (2 ^ n - 1) (2 ^ k)) a b ↔ Avo l (fun x => x = k) a b := by
  have hb : ∀ j, (dif (2 ^ n - 1) (2 ^ k)).testBit j = true ↔ j < n ∧ ¬ j = k := fun j => by
    rw [dif_bit]
    have h1 := below_bit n j
    have h2 := two_pow_bit k j
    cases h3 : (2 ^ n - 1).testBit j <;> cases h4 : (2 ^ k).testBit j <;> simp [h3, h4] at h1 h2 ⊢ <;> omega
  constructor
  · intro h
    induction h with
    | refl => exact .refl
    | step _ h1 h2 ih => exact .step ih ((outS_bit _ _ _ _).1 h1).2 ((hb _).1 h2).2
  · intro h
    induction h with
    | refl => exact .refl
    | step h h1 h2 ih => exact .step ih ((outS_bit _ _ _ _).2 ⟨h.path.lt hg ha, h1⟩) ((hb _).2 ⟨(hg _ h1).2, h2⟩)
/-- All ways from one point to i go over k. -/
def Ov (l : List (Nat × Nat)) (f i k : Nat) : Prop := Path l f i ∧ (k = i ∨ k = f ∨ ¬ Avo l (fun x => x = k) f i)
theorem Ov.self {l : List (Nat × Nat)} {f i : Nat} (h : Path l f i) : Ov l f i i := ⟨h, .inl rfl⟩
theorem Ov.first {l : List (Nat × Nat)} {f i : Nat} (h : Path l f i) : Ov l f i f := ⟨h, .inr (.inl rfl)⟩
theorem Ov.reach {l : List (Nat × Nat)} {f i k : Nat} (h : Ov l f i k) : Path l f k := by
  obtain ⟨h1, rfl | rfl | h2⟩ := h
  · exact h1
  · exact .refl
  · rcases h1.lastIn (fun x => x = k) with h3 | ⟨x, rfl, h3, _⟩
    · exact absurd h3 h2
    · exact h3
theorem Ov.at_first {l : List (Nat × Nat)} {f k : Nat} (h : Ov l f f k) : k = f := by
  rcases h.2 with h | h | h
  · exact h
  · exact h
  · exact absurd .refl h
/-- Whom one can't go around on the way there one can't, either. -/
theorem Ov.trans {l : List (Nat × Nat)} {f i x y : Nat} (h : Ov l f i x) (k : Ov l f x y) : Ov l f i y := by
  refine ⟨h.1, ?_⟩
  by_cases hy : y = f
  · exact .inr (.inl hy)
  by_cases hyi : y = i
  · exact .inl hyi
  refine .inr (.inr fun ha => ?_)
  -- a way to i that keeps out of y goes over x
  rcases h.2 with rfl | rfl | hx
  · rcases k.2 with h1 | h1 | h1
    · exact hyi h1
    · exact hy h1
    · exact h1 ha
  · exact hy k.at_first
  · by_cases hxy : y = x
    · subst hxy; exact hx ha
    rcases k.2 with h1 | h1 | h1
    · exact hxy h1
    · exact hy h1
    · -- Avo y from f to i contains x
      have : ∀ j, Avo l (fun z => z = y) f j → Avo l (fun z => z = x) f j ∨ Avo l (fun z => z = y) f x := by
        intro j hj
        induction hj with
        | refl => exact .inl .refl
        | step g1 g2 g3 ih =>
          rename_i b c
          rcases ih with ih | ih
          · by_cases hc : c = x
            · subst hc; exact .inr (.step g1 g2 g3)
            · exact .inl (.step ih g2 hc)
          · exact .inr ih
      rcases this _ ha with h2 | h2
      · exact hx h2
      · exact h1 h2
/-- Of two whom one can't go around one can't go around the one on the way to the other. -/
theorem Ov.chain {l : List (Nat × Nat)} {f i x y : Nat} (hx : Ov l f i x) (hy : Ov l f i y) : Ov l f x y ∨ Ov l f y x := by
  by_cases hxf : x = f
  · subst hxf; exact .inr ⟨hy.reach, .inr (.inl rfl)⟩
  by_cases hyf : y = f
  · subst hyf; exact .inl ⟨hx.reach, .inr (.inl rfl)⟩
  by_cases hxy : x = y
  · subst hxy; exact .inl ⟨hx.reach, .inl rfl⟩
  have key : ∀ {x y : Nat}, Ov l f i x → Ov l f i y → ¬ y = f → ¬ x = y → Avo l (fun z => z = x ∨ z = y) x i → Ov l f x y := by
    intro x y hx hy hyf hxy h
    refine ⟨hx.reach, .inr (.inr fun ha => ?_)⟩
    have h1 : Avo l (fun z => z = y) f i := ha.trans (h.mono fun z hz => .inr hz)
    rcases hy.2 with h2 | h2 | h2
    · subst h2
      rcases h.last with h3 | h3
      · exact hxy h3
      · exact h3 (.inr rfl)
    · exact hyf h2
    · exact h2 h1
  rcases hx.1.lastIn (fun z => z = x ∨ z = y) with h | ⟨z, rfl | rfl, _, h⟩
  · exfalso
    rcases hx.2 with h1 | h1 | h1
    · subst h1
      rcases h.last with h3 | h3
      · exact hxf h3.symm
      · exact h3 (.inl rfl)
    · exact hxf h1
    · exact h1 (h.mono fun z hz => .inl hz)
  · exact .inl (key hx hy hyf hxy h)
  · exact .inr (key hy hx hxf (fun e => hxy e.symm) (h.mono fun w hw => hw.symm))
/-- The lines that keep off a point. -/
def offL (l : List (Nat × Nat)) (k : Nat) : List (Nat × Nat) := l.filter fun p => decide (p.1 ≠ k) && decide (p.2 ≠ k)
theorem off_path {l : List (Nat × Nat)} {k a b : Nat} (ha : a ≠ k) : Path (offL l k) a b ↔ Avo l (fun x => x = k) a b := by
  have hm : ∀ x y, (x, y) ∈ offL l k ↔ (x, y) ∈ l ∧ x ≠ k ∧ y ≠ k := by intro x y; simp [offL]
  constructor
  · intro h
    induction h with
    | refl => exact .refl
    | step _ h1 ih => exact .step ih ((hm _ _).1 h1).1 ((hm _ _).1 h1).2.2
  · intro h
    induction h with
    | refl => exact .refl
    | step h h1 h2 ih =>
      refine .step ih ((hm _ _).2 ⟨h1, ?_, h2⟩)
      rcases h.last with h3 | h3
      · exact h3 ▸ ha
      · exact h3
end Go.Proofs

namespace Go.Proofs
open Go.Aw
def deepJ (i : Nat) (s : List Nat) (j : Nat) : List Nat := s.set j (max (s.getD j default) (s.getD i default + 1))
def deepI (next : List Nat) (s : List Nat) (i : Nat) : List Nat := (pts (next.getD i default)).foldl (deepJ i) s
def deepS (n : Nat) (l : List (Nat × Nat)) (o : List Nat) : List Nat := o.foldl (deepI (outS n l)) (List.replicate n 0)
/-- How deep each point is. -/
def IsDeep (l : List (Nat × Nat)) (d : Nat → Nat) : Prop := (∀ a b, (a, b) ∈ l → d a + 1 ≤ d b) ∧ ∀ b, d b = 0 ∨ ∃ a, (a, b) ∈ l ∧ d b = d a + 1
/-- Ways of so many lines. -/
inductive PathN (l : List (Nat × Nat)) (a : Nat) : Nat → Nat → Prop
  | refl : PathN l a 0 a
  | step {k b c : Nat} (h : PathN l a k b) (h1 : (b, c) ∈ l) : PathN l a (k + 1) c
theorem PathN.le {l : List (Nat × Nat)} {d : Nat → Nat} (hd : IsDeep l d) {a k b : Nat} (h : PathN l a k b) : d a + k ≤ d b := by
  induction h with
  | refl => exact Nat.le_refl _
  | step _ h1 ih => have := hd.1 _ _ h1; omega
theorem IsDeep.way {l : List (Nat × Nat)} {d : Nat → Nat} (hd : IsDeep l d) : ∀ (k b : Nat), d b = k → ∃ a, PathN l a k b := by
  intro k
  induction k with
  | zero => intro b _; exact ⟨b, .refl⟩
  | succ k ih =>
    intro b hb
    rcases hd.2 b with h | ⟨a, h1, h2⟩
    · omega
    · obtain ⟨c, hc⟩ := ih a (by omega)
      exact ⟨c, .step hc h1⟩
theorem IsDeep.unique {l : List (Nat × Nat)} {d d' : Nat → Nat} (hd : IsDeep l d) (hd' : IsDeep l d') (b : Nat) : d b = d' b := by
  obtain ⟨a, ha⟩ := hd.way _ b rfl
  obtain ⟨c, hc⟩ := hd'.way _ b rfl
  have h1 := ha.le hd'
  have h2 := hc.le hd
  omega
theorem PathN.cons {l : List (Nat × Nat)} {a b c k : Nat} (h1 : (a, b) ∈ l) (h : PathN l b k c) : PathN l a (k + 1) c := by
  induction h with
  | refl => exact .step .refl h1
  | step _ h2 ih => exact .step ih h2
theorem PathN.flip {l : List (Nat × Nat)} {a k b : Nat} (h : PathN l a k b) : PathN (l.map Go.Proofs.flip) b k a := by
  induction h with
  | refl => exact .refl
  | step _ h1 ih => exact .cons (flip_mem.2 h1) ih
theorem PathN.mono {l l' : List (Nat × Nat)} (hl : ∀ p ∈ l, p ∈ l') {a k b : Nat} (h : PathN l a k b) : PathN l' a k b := by
  induction h with
  | refl => exact .refl
  | step _ h1 ih => exact .step ih (hl _ h1)
theorem PathN.start {n : Nat} {l : List (Nat × Nat)} (hg : Good n l) {a k b : Nat} (h : PathN l a k b) (hb : b < n) : a < n := by
  induction h with
  | refl => exact hb
  | step _ h1 ih => exact ih (hg _ h1).1
theorem PathN.ends {n : Nat} {l : List (Nat × Nat)} (hg : Good n l) {a k b : Nat} (h : PathN l a (k + 1) b) : a < n ∧ b < n := by
  cases h with
  | step h h1 => exact ⟨h.start hg (hg _ h1).1, (hg _ h1).2⟩
/-- One round. -/
theorem deepJs_get (i : Nat) (L : List Nat) (s : List Nat) (hi : i ∉ L) (hL : L.Nodup) (hlt : ∀ x ∈ L, x < s.length) :
    (L.foldl (deepJ i) s).length = s.length ∧ ∀ j, (L.foldl (deepJ i) s).getD j default = if j ∈ L then max (s.getD j default) (s.getD i default + 1) else s.getD j default := by
  induction L generalizing s with
  | nil => simp
  | cons x L ih =>
    obtain ⟨h1, h2⟩ := List.nodup_cons.1 hL
    have hxi : x ≠ i := fun e => hi (by simp [e])
    obtain ⟨h3, h4⟩ := ih (deepJ i s x) (fun h => hi (by simp [h])) h2 (fun y hy => by simpa [deepJ] using hlt y (by simp [hy]))
    have hg : ∀ j, (deepJ i s x).getD j default = if x = j ∧ j < s.length then max (s.getD x default) (s.getD i default + 1) else s.getD j default := fun j => by rw [deepJ, set_getD]
    rw [List.foldl_cons]
    refine ⟨by rw [h3]; simp [deepJ], fun j => ?_⟩
    rw [h4, hg j, hg i, if_neg (fun h : x = i ∧ _ => hxi h.1)]
    by_cases hj : j ∈ L
    · have hjx : ¬ x = j := fun e => h1 (e ▸ hj)
      rw [if_pos hj, if_neg (fun h => hjx h.1), if_pos (by simp [hj])]
    · rw [if_neg hj]
      by_cases hjx : x = j
      · subst hjx
        rw [if_pos ⟨rfl, hlt x (by simp)⟩, if_pos (by simp)]
      · rw [if_neg (fun h => hjx h.1), if_neg (by simp [hj]; exact fun e => hjx e.symm)]
theorem pts_nodup (s : Nat) : (pts s).Nodup := List.Pairwise.filter _ List.nodup_range
theorem mem_next {n : Nat} {l : List (Nat × Nat)} (hn : n ≤ 64) (hg : Good n l) {i j : Nat} : j ∈ pts ((outS n l).getD i default) ↔ (i, j) ∈ l := by
  rw [pts_mem, outS_bit]
  exact ⟨fun h => h.2.2, fun h => ⟨by have := (hg _ h).2; omega, (hg _ h).1, h⟩⟩
structure DI (n : Nat) (l : List (Nat × Nat)) (pre : List Nat) (s : List Nat) : Prop where
  len : s.length = n
  ge : ∀ i ∈ pre, ∀ j, (i, j) ∈ l → s.getD i default + 1 ≤ s.getD j default
  eq : ∀ j, s.getD j default = 0 ∨ ∃ i ∈ pre, (i, j) ∈ l ∧ s.getD j default = s.getD i default + 1
theorem DI.next {n : Nat} {l : List (Nat × Nat)} (hn : n ≤ 64) (hg : Good n l) {o pre t s : List Nat} {i : Nat} (ho : TI n l 0 o) (e : o = pre ++ i :: t) (h : DI n l pre s) : DI n l (pre ++ [i]) (deepI (outS n l) s i) := by
  have hnd := ho.nodup
  rw [e, List.nodup_append] at hnd
  have hin : ∀ x, (i, x) ∈ l → x ∉ pre ∧ x ≠ i := by
    intro x hx
    constructor
    · intro hp
      obtain ⟨s1, t1, e1⟩ := List.append_of_mem hp
      have := ho.fwd i x hx s1 (t1 ++ i :: t) (by rw [e, e1]; simp)
      exact hnd.2.2 i (by rw [e1]; simp [this]) i (by simp) rfl
    · intro e'
      have := ho.idx hg hx
      rw [e'] at this; omega
  obtain ⟨h1, h2⟩ := deepJs_get i (pts ((outS n l).getD i default)) s (fun h' => (hin i ((mem_next hn hg).1 h')).2 rfl) (pts_nodup _) (fun x hx => by rw [h.len]; exact (hg _ ((mem_next hn hg).1 hx)).2)
  have h3 : ∀ j, (deepI (outS n l) s i).getD j default = if (i, j) ∈ l then max (s.getD j default) (s.getD i default + 1) else s.getD j default := fun j => by
    rw [deepI, h2]
    by_cases hj : (i, j) ∈ l
    · rw [if_pos hj, if_pos ((mem_next hn hg).2 hj)]
    · rw [if_neg hj, if_neg (fun h => hj ((mem_next hn hg).1 h))]
  have hpre : ∀ x, (x ∈ pre ∨ x = i) → (deepI (outS n l) s i).getD x default = s.getD x default := by
    intro x hx
    rw [h3, if_neg]
    intro h'
    rcases hx with hx | hx
    · exact (hin x h').1 hx
    · exact (hin x h').2 hx
  refine ⟨by rw [deepI, h1, h.len], fun x hx j hj => ?_, fun j => ?_⟩
  · rw [hpre x (by simpa using hx), h3]
    rcases List.mem_append.1 hx with hx | hx
    · have := h.ge x hx j hj
      split <;> omega
    · obtain rfl := List.mem_singleton.1 hx
      rw [if_pos hj]; omega
  · rw [h3]
    split
    · rename_i hj
      rcases Nat.le_total (s.getD j default) (s.getD i default + 1) with hle | hle
      · exact .inr ⟨i, by simp, hj, by rw [hpre i (.inr rfl)]; omega⟩
      · rw [Nat.max_eq_left hle]
        rcases h.eq j with h4 | ⟨x, hx, h4, h5⟩
        · omega
        · exact .inr ⟨x, by simp [hx], h4, by rw [hpre x (.inl hx)]; exact h5⟩
    · rcases h.eq j with h4 | ⟨x, hx, h4, h5⟩
      · exact .inl h4
      · exact .inr ⟨x, by simp [hx], h4, by rw [hpre x (.inl hx)]; exact h5⟩
theorem deepS_len {n : Nat} {l : List (Nat × Nat)} {o : List Nat} (hn : n ≤ 64) (hg : Good n l) (ho : TI n l 0 o) (k : Nat) (hk : k ≤ o.length) : DI n l (o.take k) ((o.take k).foldl (deepI (outS n l)) (List.replicate n 0)) := by
  induction k with
  | zero =>
    refine ⟨by simp, fun i hi => by simp at hi, fun j => .inl ?_⟩
    simp only [List.take_zero, List.foldl_nil]
    rw [List.getD_eq_getElem?_getD, List.getElem?_replicate]
    split <;> rfl
  | succ k ih =>
    have h := ih (by omega)
    rw [take_succ_getD (by omega), List.foldl_append]
    refine h.next hn hg ho (t := o.drop (k + 1)) ?_
    rw [List.getD_eq_getElem?_getD, List.getElem?_eq_getElem (by omega), Option.getD_some, List.getElem_cons_drop, List.take_append_drop]
theorem deep_spec {n : Nat} {l : List (Nat × Nat)} {o : List Nat} (hn : n ≤ 64) (hg : Good n l) (ho : TI n l 0 o) : (deepS n l o).length = n ∧ IsDeep l fun j => (deepS n l o).getD j default := by
  have h := deepS_len hn hg ho o.length (Nat.le_refl _)
  rw [List.take_length] at h
  refine ⟨h.len, fun a b hab => h.ge a (ho.mem.2 (hg _ hab).1) b hab, fun b => ?_⟩
  rcases h.eq b with h1 | ⟨i, _, h1, h2⟩
  · exact .inl h1
  · exact .inr ⟨i, h1, h2⟩
/-- No way is longer than there are points. -/
theorem deep_lt {n : Nat} {l : List (Nat × Nat)} {o : List Nat} {d : Nat → Nat} (hg : Good n l) (ho : TI n l 0 o) (hd : IsDeep l d) {b : Nat} (hb : b < n) : d b < n := by
  obtain ⟨a, ha⟩ := hd.way _ b rfl
  have : ∀ k c, PathN l a k c → 0 < k → o.idxOf a + k ≤ o.idxOf c := by
    intro k c h
    induction h with
    | refl => intro h; omega
    | step h h1 ih =>
      intro _
      have := ho.idx hg h1
      cases h with
      | refl => omega
      | step => have := ih (by omega); omega
  rcases Nat.eq_zero_or_pos (d b) with h0 | h0
  · omega
  · have h1 := this _ _ ha h0
    have h2 := List.idxOf_lt_length_of_mem (ho.mem.2 hb)
    rw [ho.len] at h2
    omega
end Go.Proofs

namespace Go.Proofs
open Go.Aw
theorem Path.firstIn {l : List (Nat × Nat)} (S : Nat → Prop) {a b : Nat} (h : Path l a b) (ha : ¬ S a) : Avo l S a b ∨ ∃ u w, S w ∧ Avo l S a u ∧ (u, w) ∈ l := by
  induction h with
  | refl => exact .inl .refl
  | step h1 h2 ih =>
    rename_i b c
    rcases ih with ih | ih
    · by_cases hc : S c
      · exact .inr ⟨b, c, hc, ih, h2⟩
      · exact .inl (.step ih h2 hc)
    · exact .inr ih
theorem Ov.anti {l : List (Nat × Nat)} {f x y : Nat} (h1 : Ov l f x y) (h2 : Ov l f y x) : x = y := by
  refine Classical.byContradiction fun hxy => ?_
  have hyf : y ≠ f := fun e => by subst e; exact hxy h2.at_first
  have hxf : x ≠ f := fun e => by subst e; exact hxy h1.at_first.symm
  have a1 : ¬ Avo l (fun z => z = y) f x := (h1.2.resolve_left fun e => hxy e.symm).resolve_left hyf
  have a2 : ¬ Avo l (fun z => z = x) f y := (h2.2.resolve_left hxy).resolve_left hxf
  rcases h1.1.firstIn (fun z => z = x ∨ z = y) (by rintro (e | e); exact hxf e.symm; exact hyf e.symm) with h | ⟨u, w, hw, h, hl⟩
  · exact a1 (h.mono fun z hz => .inr hz)
  · rcases hw with rfl | rfl
    · exact a1 (.step (h.mono fun z hz => .inr hz) hl hxy)
    · exact a2 (.step (h.mono fun z hz => .inl hz) hl fun e => hxy e.symm)
/-- Does k stand over i? -/
def ovC (n : Nat) (l : List (Nat × Nat)) (f i k : Nat) : Bool := decide (k = i) || decide (k = f) || !(reach (outS n l) (dif (2 ^ n - 1) (2 ^ k)) f).testBit i
def ovS (n : Nat) (l : List (Nat × Nat)) (f i : Nat) : Nat := addAll 0 ((List.range n).filter (ovC n l f i))
/-- Over which points each way to each one goes. -/
def ovL (n : Nat) (l : List (Nat × Nat)) (f : Nat) : List Nat := (List.range n).map fun i => if (rs n l f).testBit i then ovS n l f i else 0
section
variable {n : Nat} {l : List (Nat × Nat)} {f : Nat} (hn : n ≤ 64) (hg : Good n l) (hf : f < n)
include hn hg hf
theorem ovL_bit (i k : Nat) : ((ovL n l f).getD i default).testBit k = true ↔ k < n ∧ Ov l f i k := by
  by_cases hi : i < n
  · have e : (ovL n l f).getD i default = if (rs n l f).testBit i then ovS n l f i else 0 := by
      unfold ovL
      rw [List.getD_eq_getElem?_getD, List.getElem?_map, List.getElem?_range hi]; rfl
    rw [e]
    by_cases h : (rs n l f).testBit i = true
    · rw [if_pos h]
      have hp := (rs_bit hn hg hf i).1 h
      unfold ovS
      rw [addAll_bit, List.mem_filter, List.mem_range]
      unfold ovC
      have hr : (reach (outS n l) (dif (2 ^ n - 1) (2 ^ k)) f).testBit i = true ↔ Avo l (fun x => x = k) f i := by
        rw [reach_bit (outS_lt' hn hg) (by omega), avo_rch hg hf]
      constructor
      · rintro (h1 | ⟨h1, h2⟩)
        · simp at h1
        · refine ⟨h1, hp, ?_⟩
          rw [Bool.or_eq_true, Bool.or_eq_true, decide_eq_true_eq, decide_eq_true_eq] at h2
          rcases h2 with (h2 | h2) | h2
          · exact .inl h2
          · exact .inr (.inl h2)
          · refine .inr (.inr fun h3 => ?_)
            rw [hr.2 h3] at h2; cases h2
      · rintro ⟨h1, _, h2⟩
        refine .inr ⟨h1, ?_⟩
        rw [Bool.or_eq_true, Bool.or_eq_true, decide_eq_true_eq, decide_eq_true_eq]
        rcases h2 with h2 | h2 | h2
        · exact .inl (.inl h2)
        · exact .inl (.inr h2)
        · right
          cases h3 : (reach (outS n l) (dif (2 ^ n - 1) (2 ^ k)) f).testBit i
          · rfl
          · exact absurd (hr.1 h3) h2
    · rw [if_neg h]
      constructor
      · intro h1; simp at h1
      · intro h1; exact absurd ((rs_bit hn hg hf i).2 h1.2.1) h
  · have e : (ovL n l f).getD i default = default := by
      rw [List.getD_eq_getElem?_getD, List.getElem?_eq_none (by simp [ovL]; omega)]; rfl
    rw [e]
    constructor
    · intro h; exact absurd h (by show ¬ (Nat.testBit 0 k = true); simp)
    · rintro ⟨_, h⟩
      have := h.1.lt hg hf
      omega
theorem ovL_pts (i k : Nat) : k ∈ pts ((ovL n l f).getD i default) ↔ k < n ∧ Ov l f i k := by
  rw [pts_mem, ovL_bit hn hg hf]
  exact ⟨fun h => h.2, fun h => ⟨by omega, h⟩⟩
omit hn in
theorem Ov.lt {i k : Nat} (h : Ov l f i k) : k < n := h.reach.lt hg hf
theorem ovL_mem (i k : Nat) : k ∈ pts ((ovL n l f).getD i default) ↔ Ov l f i k := by
  rw [ovL_pts hn hg hf]
  exact ⟨fun h => h.2, fun h => ⟨h.lt hg hf, h⟩⟩
end
theorem ovS_lt {n : Nat} (hn : n ≤ 64) (l : List (Nat × Nat)) (f i : Nat) : ovS n l f i < 2 ^ 64 := by
  refine addAll_lt 0 _ (by decide) fun c hc => ?_
  have := List.mem_range.1 (List.mem_filter.1 hc).1
  omega
theorem ovL_lt {n : Nat} (hn : n ≤ 64) (l : List (Nat × Nat)) (f : Nat) : ∀ x ∈ ovL n l f, x < 2 ^ 64 := by
  intro x hx
  obtain ⟨i, _, rfl⟩ := List.mem_map.1 hx
  split
  · exact ovS_lt hn _ _ _
  · decide
theorem ovL_len (n : Nat) (l : List (Nat × Nat)) (f : Nat) : (ovL n l f).length = n := by simp [ovL]
/-- Of some points the one over which most are. -/
def bestK (all : List Nat) (b : Int) (k : Nat) : Int := if b < 0 ∨ (pts (all.getD b.toNat default)).length < (pts (all.getD k default)).length then (k : Int) else b
def lastI (all : List Nat) (i : Nat) : Int := (pts (dif (all.getD i default) (2 ^ i))).foldl (bestK all) (-1)
def lastL (n : Nat) (all : List Nat) : List Int := (List.range n).map (lastI all)
theorem bestK_spec (all : List Nat) : ∀ (L : List Nat) (b : Int), (b = -1 ∨ ∃ x : Nat, b = (x : Int)) →
    (L.foldl (bestK all) b = -1 ∧ L = [] ∧ b = -1) ∨ ∃ x : Nat, L.foldl (bestK all) b = (x : Int) ∧ (x ∈ L ∨ b = (x : Int)) ∧ (∀ k ∈ L, (pts (all.getD k default)).length ≤ (pts (all.getD x default)).length) ∧ (∀ y : Nat, b = (y : Int) → (pts (all.getD y default)).length ≤ (pts (all.getD x default)).length) := by
  intro L
  induction L with
  | nil =>
    intro b hb
    rcases hb with rfl | ⟨x, rfl⟩
    · exact .inl ⟨rfl, rfl, rfl⟩
    · refine .inr ⟨x, rfl, .inr rfl, by simp, fun y hy => ?_⟩
      have := Int.ofNat_inj.1 hy
      rw [this]; exact Nat.le_refl _
  | cons k L ih =>
    intro b hb
    rw [List.foldl_cons]
    have step : bestK all b k = (k : Int) ∨ (∃ x : Nat, b = (x : Int) ∧ bestK all b k = (x : Int) ∧ (pts (all.getD k default)).length ≤ (pts (all.getD x default)).length) := by
      unfold bestK
      split
      · exact .inl rfl
      · rename_i h
        rcases hb with rfl | ⟨x, rfl⟩
        · exact absurd (.inl (by decide)) h
        · refine .inr ⟨x, rfl, rfl, ?_⟩
          rw [Int.toNat_natCast] at h
          omega
    rcases step with e | ⟨x, hx, e, hle⟩
    · rcases ih _ (.inr ⟨k, e⟩) with h | ⟨z, h1, h2, h3, h4⟩
      · rw [e] at h; omega
      · refine .inr ⟨z, h1, .inl ?_, fun j hj => ?_, fun y hy => ?_⟩
        · rcases h2 with h2 | h2
          · exact List.mem_cons_of_mem _ h2
          · rw [e] at h2
            rw [Int.ofNat_inj.1 h2]; simp
        · rcases List.mem_cons.1 hj with rfl | hj
          · exact h4 _ e
          · exact h3 j hj
        · have := h4 k e
          subst hy
          unfold bestK at e
          rw [Int.toNat_natCast] at e
          split at e
          · rename_i h
            rcases h with h | h
            · omega
            · omega
          · have := Int.ofNat_inj.1 e; subst this; exact h4 _ (by unfold bestK; rw [Int.toNat_natCast]; split <;> rfl)
    · rcases ih _ (.inr ⟨x, e⟩) with h | ⟨z, h1, h2, h3, h4⟩
      · rw [e] at h; omega
      · refine .inr ⟨z, h1, ?_, fun j hj => ?_, fun y hy => ?_⟩
        · rcases h2 with h2 | h2
          · exact .inl (List.mem_cons_of_mem _ h2)
          · rw [e] at h2
            exact .inr (hx.trans h2)
        · have := h4 x e
          rcases List.mem_cons.1 hj with rfl | hj
          · omega
          · exact h3 j hj
        · rw [hx] at hy
          have := Int.ofNat_inj.1 hy; subst this
          exact h4 x e
section
variable {n : Nat} {l : List (Nat × Nat)} {f : Nat} (hn : n ≤ 64) (hg : Good n l) (hf : f < n)
include hn hg hf
theorem last_mem (i k : Nat) : k ∈ pts (dif ((ovL n l f).getD i default) (2 ^ i)) ↔ Ov l f i k ∧ k ≠ i := by
  rw [pts_mem, dif_bit, Bool.and_eq_true, ovL_bit hn hg hf]
  have h2 := two_pow_bit i k
  constructor
  · rintro ⟨_, ⟨_, h⟩, h3⟩
    refine ⟨h, fun e => ?_⟩
    rw [h2.2 e.symm] at h3; cases h3
  · rintro ⟨h, h3⟩
    have := h.lt hg hf
    refine ⟨by omega, ⟨this, h⟩, ?_⟩
    cases h4 : (2 ^ i).testBit k
    · rfl
    · exact absurd (h2.1 h4).symm h3
/-- The last one ahead: none, and only the point itself is over it; or one, and over it are all but the point. -/
theorem last_spec (i : Nat) : (lastI (ovL n l f) i = -1 ∧ ∀ k, Ov l f i k → k = i) ∨ ∃ p : Nat, lastI (ovL n l f) i = (p : Int) ∧ p ≠ i ∧ Ov l f i p ∧ ∀ k, Ov l f i k ↔ k = i ∨ Ov l f p k := by
  rcases bestK_spec (ovL n l f) (pts (dif ((ovL n l f).getD i default) (2 ^ i))) (-1) (.inl rfl) with ⟨h1, h2, _⟩ | ⟨p, h1, h2, h3, _⟩
  · refine .inl ⟨h1, fun k hk => Classical.byContradiction fun hne => ?_⟩
    have := (last_mem hn hg hf i k).2 ⟨hk, hne⟩
    rw [h2] at this; cases this
  · have hp := (last_mem hn hg hf i p).1 (h2.resolve_right (by omega))
    refine .inr ⟨p, h1, hp.2, hp.1, fun k => ⟨fun hk => ?_, fun hk => ?_⟩⟩
    · by_cases hki : k = i
      · exact .inl hki
      · right
        rcases hp.1.chain hk with h | h
        · exact h
        · have h5 := h3 k ((last_mem hn hg hf i k).2 ⟨hk, hki⟩)
          -- over p are some of those over k, and as many
          by_cases hpk : p = k
          · subst hpk; exact h
          · exfalso
            have := pig (L := k :: pts ((ovL n l f).getD p default)) (M := pts ((ovL n l f).getD k default)) (List.nodup_cons.2 ⟨fun hm => ?_, pts_nodup _⟩) (fun x hx => ?_)
            · rw [List.length_cons] at this; omega
            · have h6 := (ovL_mem hn hg hf p k).1 hm
              exact hpk (h.anti h6).symm
            · rw [ovL_mem hn hg hf]
              rcases List.mem_cons.1 hx with rfl | hx
              · exact .self hk.reach
              · exact h.trans ((ovL_mem hn hg hf p x).1 hx)
    · rcases hk with rfl | hk
      · exact .self hp.1.1
      · exact hp.1.trans hk
end
/-- The way over the last ones. -/
def wayS (k : List Int) (s : List Nat × Int) : List Nat × Int := (s.1 ++ [s.2.toNat], k.getD s.2.toNat default)
structure WI (l : List (Nat × Nat)) (n f i : Nat) (s : List Nat × Int) : Prop where
  nodup : s.1.Nodup
  mem : ∀ x ∈ s.1, Ov l f i x
  at' : (s.2 = -1 ∧ (∀ x, Ov l f i x → x ∈ s.1) ∧ s.1 ≠ [] ∧ s.1.getLast? = some f) ∨ ∃ a : Nat, s.2 = (a : Int) ∧ a < n ∧ Ov l f i a ∧ (∀ x, Ov l f i x ↔ x ∈ s.1 ∨ Ov l f a x) ∧ ∀ x ∈ s.1, ¬ Ov l f a x
section
variable {n : Nat} {l : List (Nat × Nat)} {f : Nat} (hn : n ≤ 64) (hg : Good n l) (hf : f < n)
include hn hg hf
omit hn hg hf in
theorem WI.start {i : Nat} (hi : i < n) (h : Path l f i) : WI l n f i ([], (i : Int)) :=
  ⟨List.nodup_nil, by simp, .inr ⟨i, rfl, hi, .self h, fun x => by simp, by simp⟩⟩
omit hn hg hf in
theorem last_get {a : Nat} (ha : a < n) : (lastL n (ovL n l f)).getD a default = lastI (ovL n l f) a := by
  unfold lastL
  rw [List.getD_eq_getElem?_getD, List.getElem?_map, List.getElem?_range ha]; rfl
theorem WI.step {i : Nat} {s : List Nat × Int} (h : WI l n f i s) (ha : 0 ≤ s.2) : WI l n f i (wayS (lastL n (ovL n l f)) s) := by
  rcases h.at' with ⟨h1, _⟩ | ⟨a, h1, h2, h3, h4, h5⟩
  · omega
  obtain ⟨way, at'⟩ := s
  simp only at h1 h4 h5 ha
  subst h1
  have haa : a ∉ way := fun hm => h5 a hm (.self h3.reach)
  have hnd : (way ++ [a]).Nodup := by
    rw [List.nodup_append]
    exact ⟨h.nodup, by simp, fun x hx y hy e => by
      rw [List.mem_singleton.1 hy] at e
      exact haa (e ▸ hx)⟩
  unfold wayS
  simp only [Int.toNat_natCast]
  rw [last_get h2]
  refine ⟨hnd, fun x hx => ?_, ?_⟩
  · rcases List.mem_append.1 hx with hx | hx
    · exact h.mem x hx
    · rw [List.mem_singleton.1 hx]; exact h3
  · rcases last_spec hn hg hf a with ⟨e, hl⟩ | ⟨p, e, hpa, hp, hall⟩
    · refine .inl ⟨e, fun x hx => ?_, by simp, ?_⟩
      · rcases (h4 x).1 hx with hx | hx
        · simp [hx]
        · rw [hl x hx]; simp
      · rw [List.getLast?_append]
        have := hl f (.first h3.reach)
        simp [this]
    · refine .inr ⟨p, e, hp.lt hg hf, h3.trans hp, fun x => ?_, fun x hx hpx => ?_⟩
      · rw [h4 x, hall x, List.mem_append, List.mem_singleton]
        exact or_assoc.symm
      · rcases List.mem_append.1 hx with hx | hx
        · exact h5 x hx (hp.trans hpx)
        · rw [List.mem_singleton.1 hx] at hpx
          exact hpa (hp.anti hpx).symm
omit hn in
/-- After as many steps as there are points the way is at its end. -/
theorem WI.ends {i : Nat} {s : List Nat × Int} (h : WI l n f i s) (hs : s.1.length = n) : s.2 = -1 := by
  rcases h.at' with ⟨h1, _⟩ | ⟨a, h1, h2, h3, h4, h5⟩
  · exact h1
  · have haa : a ∉ s.1 := fun hm => h5 a hm (.self h3.reach)
    have := pig (L := a :: s.1) (M := List.range n) (List.nodup_cons.2 ⟨haa, h.nodup⟩) (fun x hx => by
      rcases List.mem_cons.1 hx with rfl | hx
      · simpa using h2
      · simpa using (h.mem x hx).lt hg hf)
    rw [List.length_cons, List.length_range] at this
    omega
end
end Go.Proofs

namespace Go.Proofs
open Go.Aw
def isRoot (P : List Nat) (i : Nat) : Bool := decide (P.getD i default = i)
def rank (P : List Nat) (k : Nat) : Nat := (List.range k).countP (isRoot P)
theorem rank_succ (P : List Nat) (k : Nat) : rank P (k + 1) = rank P k + if isRoot P k then 1 else 0 := by
  unfold rank
  rw [List.range_succ, List.countP_append]
  simp [List.countP_cons]
theorem rank_mono (P : List Nat) {i k : Nat} (h : i ≤ k) : rank P i ≤ rank P k := by
  induction h with
  | refl => exact Nat.le_refl _
  | step _ ih => rw [rank_succ]; omega
theorem rank_lt (P : List Nat) {i k : Nat} (h : i < k) (hr : isRoot P i = true) : rank P i < rank P k := by
  have h1 := rank_mono P (show i + 1 ≤ k from h)
  rw [rank_succ, hr] at h1
  simp at h1; omega
theorem rank_le (P : List Nat) (k : Nat) : rank P k ≤ k := by
  have := List.countP_le_length (p := isRoot P) (l := List.range k)
  simpa [rank] using this
/-- Parts numbered by their least points. -/
def numI (P : List Nat) (s : List Nat × Nat) (i : Nat) : List Nat × Nat := if isRoot P i then (s.1.set i s.2, s.2 + 1) else s
def numS (n : Nat) (P : List Nat) (k : Nat) : List Nat × Nat := (List.range k).foldl (numI P) (List.replicate n 0, 0)
theorem numS_succ (n : Nat) (P : List Nat) (k : Nat) : numS n P (k + 1) = numI P (numS n P k) k := range_foldl _ _ _
theorem numS_spec (n : Nat) (P : List Nat) (k : Nat) (hk : k ≤ n) : (numS n P k).1.length = n ∧ (numS n P k).2 = rank P k ∧ ∀ j, j < k → isRoot P j = true → (numS n P k).1.getD j default = rank P j := by
  induction k with
  | zero => exact ⟨by simp [numS], by simp [numS, rank], fun j hj => by omega⟩
  | succ k ih =>
    obtain ⟨h1, h2, h3⟩ := ih (by omega)
    rw [numS_succ]
    unfold numI
    rw [rank_succ]
    split
    · rename_i hr
      refine ⟨by simp [h1], by simp [h2], fun j hj hrj => ?_⟩
      show ((numS n P k).1.set k (numS n P k).2).getD j default = rank P j
      rw [set_getD, h1, h2]
      by_cases e : k = j
      · subst e; rw [if_pos ⟨rfl, by omega⟩]
      · rw [if_neg (fun h => e h.1)]; exact h3 j (by omega) hrj
    · rename_i hr
      refine ⟨h1, by omega, fun j hj hrj => ?_⟩
      have : j ≠ k := fun e => hr (by rw [← e]; exact hrj)
      exact h3 j (by omega) hrj
/-- Of each point which part it is of. -/
def fOutP (n : Nat) (P : List Nat) (k : Nat) : List Nat := (List.range k).map fun i => (numS n P n).1.getD (P.getD i default) default
def fOut (n : Nat) (l : List (Nat × Nat)) : List Nat := fOutP n (strongP n l) n
def fMany (n : Nat) (l : List (Nat × Nat)) : Nat := (numS n (strongP n l) n).2
def crossL (out : List Nat) (l : List (Nat × Nat)) : List (Nat × Nat) := (l.map fun p => (out.getD p.1 default, out.getD p.2 default)).filter fun p => decide (p.1 ≠ p.2)
def fNext (n : Nat) (l : List (Nat × Nat)) : List Nat := outS (fMany n l) (crossL (fOut n l) l)
def linesK (next : List Nat) (k : Nat) : List (Nat × Nat) := (List.range k).flatMap fun a => (pts (next.getD a default)).map fun b => (a, b)
def fLines (n : Nat) (l : List (Nat × Nat)) : List (Nat × Nat) := linesK (fNext n l) (fMany n l)
theorem linesK_succ (next : List Nat) (k : Nat) : linesK next (k + 1) = linesK next k ++ (pts (next.getD k default)).map fun b => (k, b) := by
  unfold linesK
  rw [List.range_succ, List.flatMap_append]
  simp
theorem linesK_mem {next : List Nat} {k a b : Nat} : (a, b) ∈ linesK next k ↔ a < k ∧ b ∈ pts (next.getD a default) := by
  unfold linesK
  rw [List.mem_flatMap]
  constructor
  · rintro ⟨x, hx, h⟩
    obtain ⟨y, hy, e⟩ := List.mem_map.1 h
    cases e
    exact ⟨by simpa using hx, hy⟩
  · rintro ⟨h1, h2⟩
    exact ⟨a, by simpa using h1, List.mem_map.2 ⟨b, h2, rfl⟩⟩
theorem part_set {α : Type} (f : Nat → α) (z : α) {n q : Nat} (h : q < n) : ((List.range n).map fun i => if i < q + 1 then f i else z) = ((List.range n).map fun i => if i < q then f i else z).set q (f q) := by
  refine List.ext_getElem (by simp) fun i h1 h2 => ?_
  rw [List.getElem_set]
  simp only [List.getElem_map, List.getElem_range]
  by_cases e : q = i
  · subst e; simp
  · rw [if_neg e]
    by_cases h3 : i < q
    · rw [if_pos h3, if_pos (by omega)]
    · rw [if_neg h3, if_neg (by omega)]
theorem part_zero {α : Type} (f : Nat → α) (z : α) (n : Nat) : ((List.range n).map fun i => if i < 0 then f i else z) = List.replicate n z := by
  refine List.ext_getElem (by simp) fun i h1 h2 => ?_
  simp
theorem part_all {α : Type} (f : Nat → α) (z : α) (n : Nat) : ((List.range n).map fun i => if i < n then f i else z) = (List.range n).map f := by
  refine List.map_congr_left fun i hi => ?_
  rw [if_pos (by simpa using hi)]
theorem range_getD {α : Type} [Inhabited α] (f : Nat → α) {n i : Nat} (h : i < n) : ((List.range n).map f).getD i default = f i := by
  rw [List.getD_eq_getElem?_getD, List.getElem?_map, List.getElem?_range h]; rfl
section
variable {n : Nat} {l : List (Nat × Nat)} (hn : n ≤ 64) (hg : Good n l)
include hn hg
omit hn hg in
theorem P_get {i : Nat} (hi : i < n) : (strongP n l).getD i default = part n l i := range_getD _ hi
theorem P_lt {i : Nat} (hi : i < n) : (strongP n l).getD i default < n := by
  rw [P_get hi]
  have := (part_mut hn hg hi).2; omega
theorem P_root {i : Nat} (hi : i < n) : isRoot (strongP n l) (part n l i) = true := by
  have h := part_mut hn hg hi
  have hp : part n l i < n := by omega
  unfold isRoot
  rw [P_get hp, decide_eq_true_eq]
  exact (part_iff hn hg hp hi).2 h.1.symm
omit hn hg in
theorem fMany_eq : fMany n l = rank (strongP n l) n := (numS_spec n _ n (Nat.le_refl n)).2.1
omit hn hg in
theorem fMany_le : fMany n l ≤ n := by rw [fMany_eq]; exact rank_le _ _
theorem fOut_get {i : Nat} (hi : i < n) : (fOut n l).getD i default = rank (strongP n l) (part n l i) := by
  unfold fOut fOutP
  rw [range_getD _ hi, P_get hi]
  have := (part_mut hn hg hi).2
  exact (numS_spec n _ n (Nat.le_refl n)).2.2 _ (by omega) (P_root hn hg hi)
theorem fOut_lt {i : Nat} (hi : i < n) : (fOut n l).getD i default < fMany n l := by
  rw [fOut_get hn hg hi, fMany_eq]
  have := (part_mut hn hg hi).2
  exact rank_lt _ (by omega) (P_root hn hg hi)
theorem cross_lt : ∀ p ∈ crossL (fOut n l) l, p.1 < fMany n l ∧ p.2 < fMany n l := by
  intro p hp
  obtain ⟨q, hq, rfl⟩ := List.mem_map.1 (List.mem_filter.1 hp).1
  exact ⟨fOut_lt hn hg (hg q hq).1, fOut_lt hn hg (hg q hq).2⟩
end
end Go.Proofs

namespace Go.Proofs
open Go.Aw
/-- Lines and the same turned. -/
def symL (l : List (Nat × Nat)) : List (Nat × Nat) := l ++ l.map flip
theorem symL_mem {l : List (Nat × Nat)} {a b : Nat} : (a, b) ∈ symL l ↔ (a, b) ∈ l ∨ (b, a) ∈ l := by
  unfold symL; rw [List.mem_append, flip_mem]
theorem symL_good {n : Nat} {l : List (Nat × Nat)} (h : Good n l) : Good n (symL l) := fun p hp => by
  rcases List.mem_append.1 hp with hp | hp
  · exact h p hp
  · exact h.flip p hp
theorem symL_flip {l : List (Nat × Nat)} {a b : Nat} (h : (a, b) ∈ symL l) : (b, a) ∈ symL l := symL_mem.2 (symL_mem.1 h).symm
theorem sym_path {l : List (Nat × Nat)} {a b : Nat} (h : Path (symL l) a b) : Path (symL l) b a := by
  induction h with
  | refl => exact .refl
  | step _ h1 ih => exact (Path.one (symL_flip h1)).trans ih
theorem PathN.path {l : List (Nat × Nat)} {a k b : Nat} (h : PathN l a k b) : Path l a b := by
  induction h with
  | refl => exact .refl
  | step _ h1 ih => exact .step ih h1
/-- Broad search. -/
structure BS where
  out : List Int
  todo : List Nat
def bJ (x : Nat) (s : BS) (j : Nat) : BS := if s.out.getD j default < 0 then ⟨s.out.set j (s.out.getD x default + 1), s.todo ++ [j]⟩ else s
def bIn (next : List Nat) (s : BS) (x : Nat) : BS := (pts (next.getD x default)).foldl (bJ x) s
def bStep (next : List Nat) (s : BS) : BS := ⟨(bIn next s (s.todo.getD 0 default)).out, (bIn next s (s.todo.getD 0 default)).todo.drop 1⟩
def bRun (next : List Nat) : Nat → BS → BS
  | 0, s => s
  | m + 1, s => if s.todo = [] then s else bRun next m (bStep next s)
def bStart (n f : Nat) : BS := ⟨(List.replicate n (-1)).set f 0, [f]⟩
def farL (n : Nat) (l : List (Nat × Nat)) (f : Nat) : List Int := (bRun (outS n (symL l)) n (bStart n f)).out
def negs (s : List Int) : Nat := s.countP fun x => decide (x < 0)
structure BI (n : Nat) (l : List (Nat × Nat)) (f : Nat) (s : BS) : Prop where
  len : s.out.length = n
  val : ∀ j, j < n → s.out.getD j default = -1 ∨ ∃ k : Nat, s.out.getD j default = (k : Int) ∧ PathN l f k j ∧ k + negs s.out < n
  todo : ∀ x ∈ s.todo, x < n ∧ 0 ≤ s.out.getD x default
  first : 0 ≤ s.out.getD f default
  room : negs s.out < n
/-- Whom a point that is done has lines to are met. -/
def BC (l : List (Nat × Nat)) (s : BS) (D : Nat → Prop) : Prop := ∀ x, 0 ≤ s.out.getD x default → (x ∈ s.todo → D x) → ∀ j, (x, j) ∈ l → 0 ≤ s.out.getD j default
theorem negs_set {s : List Int} {j : Nat} {v : Int} (hj : j < s.length) (h : s.getD j default < 0) (hv : 0 ≤ v) : negs (s.set j v) + 1 = negs s := by
  induction s generalizing j with
  | nil => simp at hj
  | cons x s ih =>
    cases j with
    | zero =>
      have hx : x < 0 := h
      unfold negs
      rw [List.set_cons_zero, List.countP_cons, List.countP_cons, if_neg (by simp; omega), if_pos (by simpa using hx)]
    | succ j =>
      have := ih (j := j) (by simpa using hj) h
      unfold negs at this ⊢
      rw [List.set_cons_succ, List.countP_cons, List.countP_cons]
      omega
section
variable {n : Nat} {l : List (Nat × Nat)} {f : Nat} (hn : n ≤ 64) (hg : Good n l)
include hg
/-- One more point. -/
theorem BI.j {s : BS} (h : BI n l f s) {x j : Nat} (hx : x < n) (hx0 : 0 ≤ s.out.getD x default) (hj : (x, j) ∈ l) :
    BI n l f (bJ x s j) ∧ (∀ y, 0 ≤ s.out.getD y default → (bJ x s j).out.getD y default = s.out.getD y default) ∧ 0 ≤ (bJ x s j).out.getD j default ∧
    s.todo <+: (bJ x s j).todo ∧ (∀ y, 0 ≤ (bJ x s j).out.getD y default → 0 ≤ s.out.getD y default ∨ y ∈ (bJ x s j).todo) ∧ (bJ x s j).todo.length + negs (bJ x s j).out = s.todo.length + negs s.out := by
  have hjn := (hg _ hj).2
  unfold bJ
  by_cases hc : s.out.getD j default < 0
  · rw [if_pos hc]
    simp only
    have hjl : j < s.out.length := by rw [h.len]; exact hjn
    have hjx : j ≠ x := fun e => by subst e; omega
    have hset : ∀ y, (s.out.set j (s.out.getD x default + 1)).getD y default = if j = y then s.out.getD x default + 1 else s.out.getD y default := fun y => by
      rw [set_getD]
      by_cases e : j = y
      · rw [if_pos ⟨e, by omega⟩, if_pos e]
      · rw [if_neg (fun h => e h.1), if_neg e]
    have hneg := negs_set (v := s.out.getD x default + 1) hjl hc (by omega)
    have hpos : ∀ y, 0 ≤ s.out.getD y default → (s.out.set j (s.out.getD x default + 1)).getD y default = s.out.getD y default := fun y hy => by
      rw [hset, if_neg]; intro e; subst e; omega
    refine ⟨⟨by simp [h.len], fun y hy => ?_, fun y hy => ?_, ?_, by have := h.room; simp only; omega⟩, hpos, ?_, List.prefix_append _ _, fun y hy => ?_, ?_⟩
    · simp only [hset]
      by_cases e : j = y
      · rw [if_pos e]
        subst e
        rcases h.val x hx with h1 | ⟨k, h1, h2, h3⟩
        · omega
        · exact .inr ⟨k + 1, by rw [h1]; rfl, .step h2 hj, by omega⟩
      · rw [if_neg e]
        rcases h.val y hy with h1 | ⟨k, h1, h2, h3⟩
        · exact .inl h1
        · exact .inr ⟨k, h1, h2, by omega⟩
    · rcases List.mem_append.1 hy with hy | hy
      · have := h.todo y hy
        exact ⟨this.1, by simp only; rw [hpos y this.2]; exact this.2⟩
      · rw [List.mem_singleton.1 hy]
        exact ⟨hjn, by simp only; rw [hset, if_pos rfl]; omega⟩
    · simp only; rw [hpos f h.first]; exact h.first
    · rw [hset, if_pos rfl]; omega
    · rw [hset] at hy
      by_cases e : j = y
      · right; simp [e]
      · rw [if_neg e] at hy; exact .inl hy
    · rw [List.length_append, List.length_singleton]; omega
  · rw [if_neg hc]
    exact ⟨h, fun _ _ => rfl, by omega, List.prefix_rfl, fun y hy => .inl hy, rfl⟩
theorem BI.js {x : Nat} (hx : x < n) : ∀ (L : List Nat) (s : BS), BI n l f s → 0 ≤ s.out.getD x default → (∀ j ∈ L, (x, j) ∈ l) →
    BI n l f (L.foldl (bJ x) s) ∧ (∀ y, 0 ≤ s.out.getD y default → (L.foldl (bJ x) s).out.getD y default = s.out.getD y default) ∧ (∀ j ∈ L, 0 ≤ (L.foldl (bJ x) s).out.getD j default) ∧
    s.todo <+: (L.foldl (bJ x) s).todo ∧ (∀ y, 0 ≤ (L.foldl (bJ x) s).out.getD y default → 0 ≤ s.out.getD y default ∨ y ∈ (L.foldl (bJ x) s).todo) ∧ (L.foldl (bJ x) s).todo.length + negs (L.foldl (bJ x) s).out = s.todo.length + negs s.out := by
  intro L
  induction L with
  | nil => intro s h _ _; exact ⟨h, fun _ _ => rfl, by simp, List.prefix_rfl, fun y hy => .inl hy, rfl⟩
  | cons j L ih =>
    intro s h hx0 hL
    obtain ⟨h1, h2, h3, h4, h5, h6⟩ := h.j hg hx hx0 (hL j (by simp))
    obtain ⟨g1, g2, g3, g4, g5, g6⟩ := ih (bJ x s j) h1 (by rw [h2 x hx0]; exact hx0) (fun y hy => hL y (by simp [hy]))
    rw [List.foldl_cons]
    refine ⟨g1, fun y hy => by rw [g2 y (by rw [h2 y hy]; exact hy), h2 y hy], fun y hy => ?_, h4.trans g4, fun y hy => ?_, by omega⟩
    · rcases List.mem_cons.1 hy with rfl | hy
      · rw [g2 y h3]; exact h3
      · exact g3 y hy
    · rcases g5 y hy with h | h
      · rcases h5 y h with h | h
        · exact .inl h
        · exact .inr (g4.subset h)
      · exact .inr h
include hn
theorem BI.step {s : BS} (h : BI n l f s) (hc : BC l s fun _ => False) (ht : s.todo ≠ []) :
    BI n l f (bStep (outS n l) s) ∧ BC l (bStep (outS n l) s) (fun _ => False) ∧ (bStep (outS n l) s).todo.length + negs (bStep (outS n l) s).out + 1 = s.todo.length + negs s.out := by
  obtain ⟨x, t, e⟩ := List.exists_cons_of_ne_nil ht
  have hx := h.todo x (by rw [e]; simp)
  have e0 : s.todo.getD 0 default = x := by rw [e]; rfl
  obtain ⟨h1, h2, h3, h4, h5, h6⟩ := BI.js hg hx.1 (pts ((outS n l).getD x default)) s h hx.2 (fun j hj => (mem_next hn hg).1 hj)
  unfold bStep bIn
  rw [e0]
  generalize (pts ((outS n l).getD x default)).foldl (bJ x) s = s' at h1 h2 h3 h4 h5 h6
  obtain ⟨u, hu⟩ := h4
  rw [e] at hu
  have hd : s'.todo.drop 1 = t ++ u := by rw [← hu]; rfl
  refine ⟨⟨h1.len, h1.val, fun y hy => h1.todo y (List.mem_of_mem_drop hy), h1.first, h1.room⟩, ?_, ?_⟩
  · intro y hy hny j hj
    simp only at hy hny ⊢
    rw [hd] at hny
    by_cases hyx : y = x
    · subst hyx; exact h3 j ((mem_next hn hg).2 hj)
    · rcases h5 y hy with h7 | h7
      · have hyt : y ∉ s.todo := fun hm => by
          rw [e] at hm
          rcases List.mem_cons.1 hm with h8 | h8
          · exact hyx h8
          · exact hny (by simp [h8])
        have := hc y h7 (fun hm => hyt hm) j hj
        rw [h2 j this]; exact this
      · rw [← hu] at h7
        rcases List.mem_append.1 h7 with h8 | h8
        · rcases List.mem_cons.1 h8 with h9 | h9
          · exact absurd h9 hyx
          · exact (hny (by simp [h9])).elim
        · exact (hny (by simp [h8])).elim
  · simp only
    have : s'.todo.length = t.length + 1 + u.length := by rw [← hu]; simp; omega
    rw [hd, List.length_append]
    rw [this] at h6
    omega
theorem bRun_end : ∀ (m : Nat) (s : BS), BI n l f s → BC l s (fun _ => False) → s.todo.length + negs s.out ≤ m → BI n l f (bRun (outS n l) m s) ∧ BC l (bRun (outS n l) m s) (fun _ => False) ∧ (bRun (outS n l) m s).todo = [] := by
  intro m
  induction m with
  | zero =>
    intro s h hc hm
    exact ⟨h, hc, List.eq_nil_of_length_eq_zero (by show s.todo.length = 0; omega)⟩
  | succ m ih =>
    intro s h hc hm
    unfold bRun
    by_cases ht : s.todo = []
    · rw [if_pos ht]; exact ⟨h, hc, ht⟩
    · rw [if_neg ht]
      obtain ⟨h1, h2, h3⟩ := h.step hn hg hc ht
      exact ih _ h1 h2 (by omega)
end
theorem negs_replicate (n : Nat) : negs (List.replicate n (-1)) = n := by
  unfold negs
  rw [List.countP_replicate, if_pos (by decide)]
theorem BI.start {n : Nat} {l : List (Nat × Nat)} (hgl : Good n l) {f : Nat} (hf : f < n) : BI n l f (bStart n f) ∧ BC l (bStart n f) (fun _ => False) ∧ (bStart n f).todo.length + negs (bStart n f).out = n := by
  have hg : ∀ y, ((List.replicate n (-1 : Int)).set f 0).getD y default = if f = y then 0 else (List.replicate n (-1 : Int)).getD y default := fun y => by
    rw [set_getD]
    by_cases e : f = y
    · rw [if_pos ⟨e, by simp; omega⟩, if_pos e]
    · rw [if_neg (fun h => e h.1), if_neg e]
  have hr : ∀ y, y < n → (List.replicate n (-1 : Int)).getD y default = -1 := fun y hy => by
    rw [List.getD_eq_getElem?_getD, List.getElem?_replicate, if_pos hy]; rfl
  have hneg := negs_set (s := List.replicate n (-1)) (j := f) (v := 0) (by simpa using hf) (by rw [hr f hf]; decide) (by decide)
  rw [negs_replicate] at hneg
  refine ⟨⟨by simp [bStart], fun j hj => ?_, fun x hx => ?_, ?_, ?_⟩, ?_, ?_⟩
  · simp only [bStart]
    rw [hg]
    by_cases e : f = j
    · rw [if_pos e]; subst e; exact .inr ⟨0, rfl, .refl, by omega⟩
    · rw [if_neg e]; exact .inl (hr j hj)
  · have hx : x = f := List.mem_singleton.1 hx
    subst hx
    exact ⟨hf, by simp only [bStart]; rw [hg, if_pos rfl]; decide⟩
  · simp only [bStart]; rw [hg, if_pos rfl]; decide
  · simp only [bStart]; omega
  · intro x hx hnx j hj
    simp only [bStart] at hx hnx
    rw [hg] at hx
    by_cases e : f = x
    · exact (hnx (by simp [e])).elim
    · rw [if_neg e] at hx
      by_cases hxn : x < n
      · rw [hr x hxn] at hx; omega
      · exact absurd (hgl _ hj).1 hxn
  · simp only [bStart, List.length_singleton]; omega
/-- Where there is a way there is a number of lines by which it goes. -/
theorem far_spec {n : Nat} {l : List (Nat × Nat)} (hn : n ≤ 64) (hg : Good n l) {f : Nat} (hf : f < n) : (farL n l f).length = n ∧ ∀ j, Path (symL l) f j → ∃ k : Nat, (farL n l f).getD j default = (k : Int) ∧ PathN (symL l) f k j ∧ k < n := by
  obtain ⟨h1, h2, h3⟩ := BI.start (symL_good hg) hf
  obtain ⟨g1, g2, g3⟩ := bRun_end hn (symL_good hg) n _ h1 h2 (by omega)
  refine ⟨g1.len, fun j hj => ?_⟩
  have hpos : 0 ≤ (farL n l f).getD j default := by
    induction hj with
    | refl => exact g1.first
    | step _ h1 ih => exact g2 _ ih (fun hm => by rw [g3] at hm; cases hm) _ h1
  rcases g1.val j (hj.lt (symL_good hg) hf) with h | ⟨k, h4, h5, h6⟩
  · have h : (farL n l f).getD j default = -1 := h
    omega
  · exact ⟨k, h4, h5, by omega⟩
/-- The least point with which one hangs together. -/
def rootP (n : Nat) (l : List (Nat × Nat)) (i : Nat) : Nat := low (rs n (symL l) i)
/-- Both parts. -/
def halfL (n : Nat) (l : List (Nat × Nat)) : List Int := (List.range n).map fun i => (farL n l (rootP n l i)).getD i default % 2
def halfOk (n : Nat) (l : List (Nat × Nat)) : Bool := l.all fun p => !decide ((halfL n l).getD p.1 default = (halfL n l).getD p.2 default)
section
variable {n : Nat} {l : List (Nat × Nat)} (hn : n ≤ 64) (hg : Good n l)
include hn hg
theorem root_spec {i : Nat} (hi : i < n) : rootP n l i ≤ i ∧ Path (symL l) (rootP n l i) i := by
  obtain ⟨_, h1, h2⟩ := low_spec ((rs_bit hn (symL_good hg) hi i).2 .refl) (by omega)
  exact ⟨h2, sym_path ((rs_bit hn (symL_good hg) hi _).1 h1)⟩
theorem root_eq {i j : Nat} (hi : i < n) (hj : j < n) (h : Path (symL l) i j) : rootP n l i = rootP n l j := by
  unfold rootP
  congr 1
  refine bits_eq fun k => ?_
  rw [Bool.eq_iff_iff, rs_bit hn (symL_good hg) hi, rs_bit hn (symL_good hg) hj]
  exact ⟨fun h' => (sym_path h).trans h', fun h' => h.trans h'⟩
theorem half_get {i : Nat} (hi : i < n) : ∃ k : Nat, (halfL n l).getD i default = (k : Int) % 2 ∧ PathN (symL l) (rootP n l i) k i := by
  obtain ⟨h1, h2⟩ := root_spec hn hg hi
  obtain ⟨k, h3, h4, _⟩ := (far_spec hn hg (f := rootP n l i) (by omega)).2 i h2
  refine ⟨k, ?_, h4⟩
  unfold halfL
  rw [List.getD_eq_getElem?_getD, List.getElem?_map, List.getElem?_range hi, Option.map_some, Option.getD_some, h3]
omit hn hg in
theorem PathN.col {c : Nat → Bool} (hc : ∀ a b, (a, b) ∈ l → c a ≠ c b) {a k b : Nat} (h : PathN (symL l) a k b) : c b = (c a != decide (k % 2 = 1)) := by
  induction h with
  | refl => simp
  | step _h0 h1 ih =>
    rename_i k b d
    have e : c b ≠ c d := by
      rcases symL_mem.1 h1 with h | h
      · exact hc _ _ h
      · exact (hc _ _ h).symm
    rcases Nat.mod_two_eq_zero_or_one k with hk | hk
    · have h1 : (k + 1) % 2 = 1 := by omega
      rw [hk] at ih; rw [h1]
      revert e ih; cases c a <;> cases c b <;> cases c d <;> decide
    · have h1 : (k + 1) % 2 = 0 := by omega
      rw [hk] at ih; rw [h1]
      revert e ih; cases c a <;> cases c b <;> cases c d <;> decide
/-- Points can be parted in two just if some way to part them is right. -/
theorem half_iff : halfOk n l = true ↔ ∃ c : Nat → Bool, ∀ a b, (a, b) ∈ l → c a ≠ c b := by
  unfold halfOk
  rw [List.all_eq_true]
  constructor
  · intro h
    refine ⟨fun i => decide ((halfL n l).getD i default = 1), fun a b hab e => ?_⟩
    have h1 := h _ hab
    simp only [Bool.not_eq_true', decide_eq_false_iff_not] at h1
    obtain ⟨k, h2, _⟩ := half_get hn hg (hg _ hab).1
    obtain ⟨m, h3, _⟩ := half_get hn hg (hg _ hab).2
    simp only at h2 h3 h1 e
    rw [h2, h3] at h1 e
    rw [decide_eq_decide] at e
    omega
  · rintro ⟨c, hc⟩ ⟨a, b⟩ hab
    simp only [Bool.not_eq_true', decide_eq_false_iff_not]
    have ha := (hg _ hab).1
    have hb := (hg _ hab).2
    obtain ⟨k, h2, h4⟩ := half_get hn hg ha
    obtain ⟨m, h3, h5⟩ := half_get hn hg hb
    simp only at h2 h3
    rw [h2, h3]
    rw [← root_eq hn hg ha hb (.one (symL_mem.2 (.inl hab)))] at h5
    have h6 := h4.col hc
    have h7 := h5.col hc
    have h8 := hc _ _ hab
    intro e
    have e : k % 2 = m % 2 := by omega
    rw [e] at h6
    rw [h6, h7] at h8
    exact h8 rfl
omit hn hg in
theorem half_part (h : halfOk n l = true) {a b : Nat} (hab : (a, b) ∈ l) : (halfL n l).getD a default ≠ (halfL n l).getD b default := by
  have := (List.all_eq_true.1 h) _ hab
  simpa using this
end
/-- With one more line between both parts it can be done still. -/
theorem half_more {n : Nat} {l : List (Nat × Nat)} (hn : n ≤ 64) (hg : Good n l) (h : halfOk n l = true) {a b : Nat} (ha : a < n) (hb : b < n) (hab : (halfL n l).getD a default ≠ (halfL n l).getD b default) : halfOk n (l ++ [(a, b)]) = true := by
  refine (half_iff hn (fun p hp => ?_)).2 ⟨fun i => decide ((halfL n l).getD i default = 1), fun x y hxy e => ?_⟩
  · rcases List.mem_append.1 hp with hp | hp
    · exact hg p hp
    · rw [List.mem_singleton.1 hp]; exact ⟨ha, hb⟩
  · have key : x < n ∧ y < n ∧ (halfL n l).getD x default ≠ (halfL n l).getD y default := by
      rcases List.mem_append.1 hxy with hp | hp
      · exact ⟨(hg _ hp).1, (hg _ hp).2, half_part h hp⟩
      · have := List.mem_singleton.1 hp
        cases this; exact ⟨ha, hb, hab⟩
    obtain ⟨k, h2, _⟩ := half_get hn hg key.1
    obtain ⟨m, h3, _⟩ := half_get hn hg key.2.1
    have h1 := key.2.2
    simp only at e
    rw [h2, h3] at h1 e
    rw [decide_eq_decide] at e
    omega
theorem half_less {n : Nat} {l l' : List (Nat × Nat)} (hn : n ≤ 64) (hg : Good n l) (h : halfOk n l = true) (hl : ∀ p ∈ l', p ∈ l) : halfOk n l' = true := by
  obtain ⟨c, hc⟩ := (half_iff hn hg).1 h
  exact (half_iff hn (fun p hp => hg p (hl p hp))).2 ⟨c, fun a b hab => hc a b (hl _ hab)⟩
end Go.Proofs

namespace Go.Proofs
open Go.Aw
/-- Does a part fall apart without a point? -/
def cutB (n : Nat) (l : List (Nat × Nat)) (i : Nat) : Bool := (pts ((outS n (symL l)).getD i default)).any fun j => !(reach (outS n (symL l)) (dif (2 ^ n - 1) (2 ^ i)) (low ((outS n (symL l)).getD i default))).testBit j
def cutL (n : Nat) (l : List (Nat × Nat)) : List Nat := (List.range n).filter (cutB n l)
theorem avo_turn {l : List (Nat × Nat)} {k a b : Nat} (h : Avo (symL l) (fun x => x = k) a b) (ha : a ≠ k) : Avo (symL l) (fun x => x = k) b a := by
  induction h with
  | refl => exact .refl
  | step h0 h1 h2 ih =>
    rename_i b c
    have hb : b ≠ k := by
      rcases h0.last with h | h
      · rw [← h]; exact ha
      · exact h
    exact (Avo.step .refl (symL_flip h1) hb).trans ih
theorem cut_of {n : Nat} {l : List (Nat × Nat)} (hn : n ≤ 64) (hg : Good n l) (hs : ∀ a, (a, a) ∉ l) {f i k : Nat} (hf : f < n) (hkn : k < n) (hk : k ≠ f) (hi : i ≠ k) (h : Ov (symL l) f i k) : k ∈ cutL n l := by
  have hsg := symL_good hg
  have hp := h.1
  have hna : ¬ Avo (symL l) (fun x => x = k) f i := (h.2.resolve_left fun e => hi e.symm).resolve_left hk
  refine List.mem_filter.2 ⟨by simpa using hkn, ?_⟩
  refine Classical.byContradiction fun hno => hna ?_
  unfold cutB at hno
  rw [List.any_eq_true] at hno
  let a0 := low ((outS n (symL l)).getD k default)
  have hall : ∀ j, (k, j) ∈ symL l → Avo (symL l) (fun x => x = k) a0 j ∧ (k, a0) ∈ symL l := by
    intro j hj
    have hm := (mem_next hn hsg).2 hj
    have hj2 := (pts_mem _ _).1 hm
    have ha0 : (k, a0) ∈ symL l := by
      have := (low_spec hj2.2 hj2.1).2.1
      exact ((outS_bit _ _ _ _).1 this).2
    have ha0n : a0 < n := (hsg _ ha0).2
    refine ⟨?_, ha0⟩
    rw [← avo_rch hsg ha0n, ← reach_bit (outS_lt' hn hsg) (by omega)]
    cases h1 : (reach (outS n (symL l)) (dif (2 ^ n - 1) (2 ^ k)) a0).testBit j
    · exact absurd ⟨j, hm, by rw [show low ((outS n (symL l)).getD k default) = a0 from rfl, h1]; rfl⟩ hno
    · rfl
  -- a0 itself is not k, if a line of k goes elsewhere than to k
  have key : ∀ z, Path (symL l) f z → Avo (symL l) (fun x => x = k) f z ∨ (∃ u, Avo (symL l) (fun x => x = k) f u ∧ u ≠ k ∧ (u, k) ∈ symL l) := by
    intro z hz
    rcases hz.firstIn (fun x => x = k) (fun e => hk e.symm) with h1 | ⟨u, w, rfl, h1, h2⟩
    · exact .inl h1
    · by_cases hu : u = w
      · subst hu
        rcases h1.last with h3 | h3
        · exact absurd h3.symm hk
        · exact absurd rfl h3
      · exact .inr ⟨u, h1, hu, h2⟩
  rcases hp.lastIn (fun x => x = k) with h1 | ⟨w, rfl, h1, h2⟩
  · exact h1
  · rcases key _ h1 with h3 | ⟨u, h3, huk, h4⟩
    · rcases h3.last with h5 | h5
      · exact absurd h5.symm hk
      · exact absurd rfl h5
    · -- from k on
      have hfst : ∃ v, (w, v) ∈ symL l ∧ v ≠ w ∧ Avo (symL l) (fun x => x = w) v i := by
        have : ∀ z, Avo (symL l) (fun x => x = w) w z → z = w ∨ ∃ v, (w, v) ∈ symL l ∧ v ≠ w ∧ Avo (symL l) (fun x => x = w) v z := by
          intro z hz
          induction hz with
          | refl => exact .inl rfl
          | step _h0 g1 g2 ih =>
            rename_i b c
            rcases ih with rfl | ⟨v, g3, g4, g5⟩
            · exact .inr ⟨c, g1, g2, .refl⟩
            · exact .inr ⟨v, g3, g4, .step g5 g1 g2⟩
        exact (this i h2).resolve_left hi
      obtain ⟨v, h5, h6, h7⟩ := hfst
      obtain ⟨h8, h9⟩ := hall v h5
      have h10 := (hall u (symL_flip h4)).1
      have ha0 : a0 ≠ w := fun e => by
        rw [e] at h9
        exact hs _ ((symL_mem.1 h9).elim id id)
      exact h3.trans ((avo_turn h10 ha0).trans (h8.trans h7))
end Go.Proofs

namespace Go.Proofs
open Go.Aw
/-- Ways by their points. -/
def WayF (l : List (Nat × Nat)) (p : Nat → Nat) (k : Nat) : Prop := ∀ i, i < k → (p i, p (i + 1)) ∈ l
theorem WayF.pathN {l : List (Nat × Nat)} {p : Nat → Nat} {k : Nat} (h : WayF l p k) : ∀ m i, i + m ≤ k → PathN l (p i) m (p (i + m)) := by
  intro m
  induction m with
  | zero => intro i _; exact .refl
  | succ m ih => intro i hi; exact .step (ih i (by omega)) (h (i + m) (by omega))
theorem PathN.wayF {l : List (Nat × Nat)} {a k b : Nat} (h : PathN l a k b) : ∃ p, p 0 = a ∧ p k = b ∧ WayF l p k := by
  induction h with
  | refl => exact ⟨fun _ => a, rfl, rfl, fun i hi => by omega⟩
  | step _h0 h1 ih =>
    rename_i k b c
    obtain ⟨p, h2, h3, h4⟩ := ih
    refine ⟨fun i => if i ≤ k then p i else c, ?_, ?_, fun i hi => ?_⟩
    · simp only; rw [if_pos (by omega)]; exact h2
    · simp only; rw [if_neg (by omega)]
    · simp only
      rw [if_pos (by omega)]
      by_cases hik : i + 1 ≤ k
      · rw [if_pos hik]; exact h4 i (by omega)
      · have : i = k := by omega
        subst this
        rw [if_neg hik, h3]; exact h1
theorem PathN.trans {l : List (Nat × Nat)} {a k b m c : Nat} (h : PathN l a k b) (h' : PathN l b m c) : PathN l a (k + m) c := by
  induction h' with
  | refl => exact h
  | step _ h1 ih => exact .step ih h1
theorem PathN.sym {l : List (Nat × Nat)} {a k b : Nat} (h : PathN (symL l) a k b) : PathN (symL l) b k a := by
  induction h with
  | refl => exact .refl
  | step _ h1 ih => exact .cons (symL_flip h1) ih
/-- Two alike among more than n. -/
theorem two_alike {n : Nat} {p : Nat → Nat} {k : Nat} (hk : n < k) (hp : ∀ i, i < k → p i < n) : ∃ i j, i < j ∧ j < k ∧ p i = p j := by
  refine Classical.byContradiction fun hno => ?_
  have hnd : ((List.range k).map p).Nodup := by
    unfold List.Nodup
    rw [List.pairwise_map]
    refine List.Pairwise.imp_of_mem ?_ List.pairwise_lt_range
    intro a b ha hb hab e
    exact hno ⟨a, b, hab, by simpa using hb, e⟩
  have := pig (M := List.range n) hnd (fun x hx => by
    obtain ⟨i, hi, rfl⟩ := List.mem_map.1 hx
    simpa using hp i (by simpa using hi))
  rw [List.length_map, List.length_range, List.length_range] at this
  omega
/-- An odd ring that is shortest has no more lines than there are points. -/
theorem odd_short {n : Nat} {l : List (Nat × Nat)} (hg : Good n l) : ∀ (k a : Nat), PathN l a k a → k % 2 = 1 → ∃ m b, m ≤ n ∧ m ≤ k ∧ m % 2 = 1 ∧ PathN l b m b := by
  intro k
  induction k using Nat.strongRecOn with
  | ind k ih =>
    intro a h hk
    rcases Nat.lt_or_ge n k with hn | hn
    · obtain ⟨p, h1, h2, h3⟩ := h.wayF
      obtain ⟨i, j, hij, hjk, e⟩ := two_alike (p := p) hn fun i hi => (hg _ (h3 i hi)).1
      have a1 := h3.pathN (j - i) i (by omega)
      rw [show i + (j - i) = j by omega, ← e] at a1
      have a2 := h3.pathN i 0 (by omega)
      rw [Nat.zero_add, h1, e] at a2
      have a3 := h3.pathN (k - j) j (by omega)
      rw [show j + (k - j) = k by omega, h2] at a3
      have a4 := a2.trans a3
      rcases Nat.mod_two_eq_zero_or_one (j - i) with h5 | h5
      · obtain ⟨m, b, g1, g2, g3, g4⟩ := ih (i + (k - j)) (by omega) a a4 (by omega)
        exact ⟨m, b, g1, by omega, g3, g4⟩
      · obtain ⟨m, b, g1, g2, g3, g4⟩ := ih (j - i) (by omega) (p i) a1 h5
        exact ⟨m, b, g1, by omega, g3, g4⟩
    · exact ⟨k, a, hn, Nat.le_refl _, hk, h⟩
theorem odd_iff {n : Nat} {l : List (Nat × Nat)} (hn : n ≤ 64) (hg : Good n l) : halfOk n l = false ↔ ∃ m b, m ≤ n ∧ m % 2 = 1 ∧ PathN (symL l) b m b := by
  constructor
  · intro h
    have : ∃ p ∈ l, (halfL n l).getD p.1 default = (halfL n l).getD p.2 default := by
      refine Classical.byContradiction fun hno => ?_
      have : halfOk n l = true := List.all_eq_true.2 fun p hp => by
        simp only [Bool.not_eq_true', decide_eq_false_iff_not]
        exact fun e => hno ⟨p, hp, e⟩
      rw [h] at this; cases this
    obtain ⟨⟨a, b⟩, hab, e⟩ := this
    obtain ⟨k, h2, h4⟩ := half_get hn hg (hg _ hab).1
    obtain ⟨m, h3, h5⟩ := half_get hn hg (hg _ hab).2
    rw [h2, h3] at e
    simp only at h4 h5
    rw [← root_eq hn hg (hg _ hab).1 (hg _ hab).2 (.one (symL_mem.2 (.inl hab)))] at h5
    have := (h4.step (symL_mem.2 (.inl hab))).trans h5.sym
    obtain ⟨x, y, g1, g2, g3, g4⟩ := odd_short (symL_good hg) _ _ this (by omega)
    exact ⟨x, y, g1, g3, g4⟩
  · rintro ⟨m, b, _, h1, h2⟩
    cases h : halfOk n l with
    | false => rfl
    | true =>
      obtain ⟨c, hc⟩ := (half_iff hn hg).1 h
      have := h2.col hc
      rw [h1] at this
      revert this; cases c b <;> decide
/-- Where one is after so many lines. -/
def nowS (next : List Nat) (a : Nat) : Nat → Nat
  | 0 => 2 ^ a
  | k + 1 => orL next (pts (nowS next a k))
theorem nowS_bit {n : Nat} {l : List (Nat × Nat)} (hn : n ≤ 64) (hg : Good n l) {a : Nat} (ha : a < n) : ∀ k j, (nowS (outS n l) a k).testBit j = true ↔ PathN l a k j := by
  intro k
  induction k with
  | zero =>
    intro j
    show (2 ^ a).testBit j = true ↔ _
    rw [two_pow_bit]
    exact ⟨fun e => by subst e; exact .refl, fun h => by cases h; rfl⟩
  | succ k ih =>
    intro j
    show (orL _ _).testBit j = true ↔ _
    rw [orL_bit]
    constructor
    · rintro ⟨b, h1, h2⟩
      exact .step ((ih b).1 ((pts_mem _ _).1 h1).2) ((outS_bit _ _ _ _).1 h2).2
    · intro h
      cases h with
      | step h h1 =>
        have hb := (hg _ h1).1
        exact ⟨_, (pts_mem _ _).2 ⟨by simp at hb; omega, (ih _).2 h⟩, (outS_bit _ _ _ _).2 ⟨hb, h1⟩⟩
theorem nowS_lt {next : List Nat} (hx : ∀ x ∈ next, x < 2 ^ 64) {a : Nat} (ha : a < 64) (k : Nat) : nowS next a k < 2 ^ 64 := by
  cases k with
  | zero => exact Nat.pow_lt_pow_right (by omega) ha
  | succ k => exact orL_lt hx _
def oddK (next : List Nat) (a b k : Nat) : Nat := if k % 2 = 1 ∧ (nowS next a k).testBit a = true ∧ (b = 0 ∨ k < b) then k else b
def oddA (next : List Nat) (n b a : Nat) : Nat := (List.range n).foldl (fun b k => oddK next a b (k + 1)) b
def oddN (n : Nat) (next : List Nat) : Nat := (List.range n).foldl (oddA next n) 0
theorem fold_odd {α : Type} (q : α → Nat) (ok : α → Prop) [DecidablePred ok] (step : Nat → α → Nat) (hs : ∀ b x, step b x = if ok x ∧ (b = 0 ∨ q x < b) then q x else b) (hq : ∀ x, ok x → 0 < q x) :
    ∀ (L : List α) (b : Nat), (L.foldl step b = 0 ↔ b = 0 ∧ ∀ x ∈ L, ¬ ok x) ∧ (L.foldl step b = b ∨ ∃ x ∈ L, ok x ∧ L.foldl step b = q x) := by
  intro L
  induction L with
  | nil => intro b; exact ⟨by simp, .inl rfl⟩
  | cons x L ih =>
    intro b
    obtain ⟨h1, h2⟩ := ih (step b x)
    rw [List.foldl_cons]
    constructor
    · rw [h1, hs]
      by_cases hc : ok x ∧ (b = 0 ∨ q x < b)
      · rw [if_pos hc]
        have := hq x hc.1
        exact ⟨fun h => by omega, fun h => absurd hc.1 (h.2 x (by simp))⟩
      · rw [if_neg hc]
        constructor
        · rintro ⟨rfl, h⟩
          refine ⟨rfl, fun y hy => ?_⟩
          rcases List.mem_cons.1 hy with rfl | hy
          · exact fun hok => hc ⟨hok, .inl rfl⟩
          · exact h y hy
        · rintro ⟨h3, h4⟩
          exact ⟨h3, fun y hy => h4 y (by simp [hy])⟩
    · rcases h2 with h2 | ⟨y, hy, h3, h4⟩
      · rw [h2, hs]
        by_cases hc : ok x ∧ (b = 0 ∨ q x < b)
        · rw [if_pos hc]; exact .inr ⟨x, by simp, hc.1, rfl⟩
        · rw [if_neg hc]; exact .inl rfl
      · exact .inr ⟨y, by simp [hy], h3, h4⟩
theorem odd_flat (n : Nat) (next : List Nat) : oddN n next = ((List.range n).flatMap fun a => (List.range n).map fun k => (a, k + 1)).foldl (fun b p => oddK next p.1 b p.2) 0 := by
  unfold oddN
  rw [List.foldl_flatMap]
  congr 1
  funext b a
  rw [List.foldl_map]; rfl
/-- How many lines the shortest odd ring has. -/
theorem oddN_spec (n : Nat) (next : List Nat) : (oddN n next = 0 ↔ ∀ a k, a < n → k ≤ n → k % 2 = 1 → (nowS next a k).testBit a = false) ∧ (oddN n next ≠ 0 → oddN n next % 2 = 1 ∧ oddN n next ≤ n) := by
  rw [odd_flat]
  have hm : ∀ p : Nat × Nat, p ∈ ((List.range n).flatMap fun a => (List.range n).map fun k => (a, k + 1)) ↔ p.1 < n ∧ 0 < p.2 ∧ p.2 ≤ n := by
    rintro ⟨a, k⟩
    simp only [List.mem_flatMap, List.mem_map, List.mem_range, Prod.mk.injEq]
    constructor
    · rintro ⟨x, hx, y, hy, rfl, rfl⟩; exact ⟨hx, by omega, by omega⟩
    · rintro ⟨h1, h2, h3⟩; exact ⟨a, h1, k - 1, by omega, rfl, by omega⟩
  obtain ⟨h1, h2⟩ := fold_odd (fun p : Nat × Nat => p.2) (fun p => p.2 % 2 = 1 ∧ (nowS next p.1 p.2).testBit p.1 = true) (fun b p => oddK next p.1 b p.2) (fun b p => by
    show (if _ then _ else _) = _
    simp only [and_assoc]) (fun p hp => by omega) ((List.range n).flatMap fun a => (List.range n).map fun k => (a, k + 1)) 0
  constructor
  · rw [h1]
    constructor
    · rintro ⟨_, h⟩ a k ha hk ho
      cases h3 : (nowS next a k).testBit a with
      | false => rfl
      | true => exact absurd ⟨ho, h3⟩ (h (a, k) ((hm _).2 ⟨ha, by show 0 < k; omega, hk⟩))
    · intro h
      refine ⟨rfl, fun p hp hok => ?_⟩
      have := (hm p).1 hp
      rw [h p.1 p.2 this.1 this.2.2 hok.1] at hok
      exact absurd hok.2 (by decide)
  · intro hne
    rcases h2 with h2 | ⟨p, hp, h3, h4⟩
    · exact absurd h2 hne
    · rw [h4]
      exact ⟨h3.1, ((hm p).1 hp).2.2⟩
/-- KOENIG: points can be parted in two just if no ring is odd. -/
theorem odd_half {n : Nat} {l : List (Nat × Nat)} (hn : n ≤ 64) (hg : Good n l) : oddN n (outS n (symL l)) = 0 ↔ halfOk n l = true := by
  have h := odd_iff hn hg
  rw [(oddN_spec _ _).1]
  constructor
  · intro h1
    cases h2 : halfOk n l with
    | true => rfl
    | false =>
      obtain ⟨m, b, h3, h4, h5⟩ := h.1 h2
      have hb : b < n := by
        cases m with
        | zero => omega
        | succ m => exact (h5.ends (symL_good hg)).1
      have := h1 b m hb h3 h4
      rw [(nowS_bit hn (symL_good hg) hb m b).2 h5] at this
      cases this
  · intro h1 a k ha hk ho
    cases h3 : (nowS (outS n (symL l)) a k).testBit a with
    | false => rfl
    | true =>
      rw [h.2 ⟨k, a, hk, ho, (nowS_bit hn (symL_good hg) ha k a).1 h3⟩] at h1
      cases h1
end Go.Proofs
